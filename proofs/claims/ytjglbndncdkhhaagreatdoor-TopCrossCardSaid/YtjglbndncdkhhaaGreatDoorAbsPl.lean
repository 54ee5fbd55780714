/- Plain laws over trees: values of one's own as ground values; how a tree is gone through. -/
import Derived.Test.YtjglbndncdkhhaaGreatDoorAbsJ
namespace Go.aN
set_option linter.unusedSimpArgs false
theorem Ea {Ds:List aH} {k:Nat} {d:aH} {gs out:List GV} (hk:Ds[k]? = some d) (h:d.den (vJ Ds).lim gs=some out):(vJ Ds).lim k gs=some out:=gI.akj hk h
def upd (val:Nat->Option GV) (k:Nat) (g:GV):Nat->Option GV:=λn=>if n=k then some g else val n
def SE (gs:List GV):Nat->Option GV:=λn=>gs[n]?
@[simp] theorem aqj {gs:List GV} {n:Nat}:SE gs n=gs[n]?:=rfl
@[simp] theorem upd_same {val:Nat->Option GV} {k:Nat} {g:GV}:upd val k g k=some g:=aj rfl
@[simp] theorem upd_ne {val:Nat->Option GV} {k n:Nat} {g:GV} (h:n≠k):upd val k g n=val n:=ah h
def Tree.go (I:gB):Tree->Nat->(Nat->Option GV)->Option (List GV)
 | .step nd t,k,val=>match nd.den I val with
   | some g=>t.go I (k+1) (upd val k g)
   | none=>none
 | .ite n t e,k,val=>match val n with
   | some (.b true)=>t.go I k val
   | some (.b false)=>e.go I k val
   | _=>none
 | .ret l,_,val=>valsOf val l
 | .tail f l,_,val=>match valsOf val l with
   | some gs=>I f gs
   | none=>none
 | .dead,_,_=>none
theorem Tree.JA {I:gB}:∀ (t:Tree) (env:List GV),t.go I env.length (λn=>env[n]?)=t.den I env
 | .step nd t,env=>by
   simp only [Tree.go,Tree.den];cases nd.den I λn=>env[n]? with
   | none=>rfl
   | some g=>
     simp only;rw [<- Tree.JA t (env++[g])];congr 1
     ·simp
     ·funext n
      unfold upd;split
      ·next h=>subst h;simp
      ·next h=>
       show env[n]? = (env++[g])[n]?
       rcases xP n env.length with hl | hl
       ·rw [kL hl]
       ·rw [su hl,vF (l:=env) hl,vF]
        simp;omega
 | .ite n t e,env=>by simp only [Tree.go,Tree.den,Tree.JA t env,Tree.JA e env];rfl
 | .ret l,env=>rfl
 | .tail f l,env=>rfl
 | .dead,env=>rfl
def Zi (o:Option GV) (I:gB) (t:Tree) (k:Nat) (val:Nat->Option GV):Option (List GV):=match o with
 | some g=>t.go I (k+1) (upd val k g)
 | none=>none
def Z7 (o:Option GV) (I:gB) (t e:Tree) (k:Nat) (val:Nat->Option GV):Option (List GV):=match o with
 | some (.b true)=>t.go I k val
 | some (.b false)=>e.go I k val
 | _=>none
section
variable {I:gB} {k:Nat} {val:Nat->Option GV}
@[simp] theorem afG {g:GV} {t:Tree}:Zi (some g) I t k val=t.go I (k+1) (upd val k g):=rfl
@[simp] theorem aqY {c:Bool} {t e:Tree}:Z7 (some (.b c)) I t e k val=if c=true then t.go I k val else e.go I k val:=by cases c<;>rfl
@[simp] theorem aph {nd:Nd} {t:Tree}:(Tree.step nd t).go I k val=Zi (nd.den I val) I t k val:=rfl
@[simp] theorem asT {n:Nat} {t e:Tree}:(Tree.ite n t e).go I k val=Z7 (val n) I t e k val:=rfl
@[simp] theorem asU {l:List Nat}:(Tree.ret l).go I k val=valsOf val l:=rfl
@[simp] theorem asR:Tree.dead.go I k val=none:=rfl
@[simp] theorem asV {f:Nat} {l:List Nat}:(Tree.tail f l).go I k val=(valsOf val l).bind (I f):=by
 simp only [Tree.go];cases valsOf val l<;>rfl
end
@[simp] theorem akX {I:gB} {f j:Nat} {l:List Nat} {val:Nat->Option GV}:(Nd.call f l j).den I val=(valsOf val l).bind λgs=>(I f gs).bind λr=>r[j]?:=by
 simp only [Nd.den];cases valsOf val l with
 | none=>rfl
 | some gs=>simp only [zk];cases I f gs<;>rfl
@[simp] theorem asZ {val:Nat->Option GV}:valsOf val []=some []:=rfl
@[simp] theorem aeL {val:Nat->Option GV} {n:Nat} {l:List Nat}:valsOf val (n::l)=(val n).bind λg=>(valsOf val l).bind λr=>some (g::r):=by
 simp only [valsOf];cases val n<;>cases valsOf val l<;>rfl
def gJ (op:BinOp) (x y:Option GV):Option GV:=match x,y with
 | some a,some b=>gq op a b
 | _,_=>none
def SI (op:BinOp) (x y:Option GV):Option GV:=match x,y with
 | some a,some b=>Nz op a b
 | _,_=>none
def I9 (op:BinOp) (ks:List Nat) (x y:Option GV):Option GV:=match x,y with
 | some a,some b=>FP op ks a b
 | _,_=>none
def X0 (op:UnOp) (x:Option GV):Option GV:=match x with
 | some a=>Q7 op a
 | none=>none
section
variable {I:gB} {val:Nat->Option GV}
@[simp] theorem ar4 {k:IntKind} {n:Int}:(Nd.ci k n).den I val=some (.i k n):=rfl
@[simp] theorem ar1 {x:Bool}:(Nd.cb x).den I val=some (.b x):=rfl
@[simp] theorem ar6 {x:List UInt8}:(Nd.cs x).den I val=some (.s x):=rfl
@[simp] theorem arX {op:BinOp} {a b:Nat}:(Nd.bin op a b).den I val=gJ op (val a) (val b):=rfl
@[simp] theorem arY {op:BinOp} {a b:Nat}:(Nd.Bc op a b).den I val=SI op (val a) (val b):=rfl
@[simp] theorem arZ {op:BinOp} {ks:List Nat} {a b:Nat}:(Nd.Bd op ks a b).den I val=I9 op ks (val a) (val b):=rfl
@[simp] theorem asu {op:UnOp} {a:Nat}:(Nd.un op a).den I val=X0 op (val a):=rfl
def J6 (big:Bool) (x y:Option GV):Option GV:=match x,y with
 | some (.i k x),some (.i k' y)=>if k=k' then some (.i k (if big then (if x < y then y else x) else (if y < x then y else x))) else none
 | _,_=>none
@[simp] theorem asg {g:Bool} {a b:Nat}:(Nd.mm g a b).den I val=J6 g (val a) (val b):=rfl
@[simp] theorem arT {k:IntKind} {x y:Int}:J6 true (some (.i k x)) (some (.i k y))=some (.i k (if x < y then y else x)):=by simp [J6]
@[simp] theorem arS {k:IntKind} {x y:Int}:J6 false (some (.i k x)) (some (.i k y))=some (.i k (if y < x then y else x)):=by simp [J6]
def Z9 (k:IntKind) (x:Option GV):Option GV:=match x with
 | some (.i _ n)=>some (.i k (k.wrap n))
 | _=>none
@[simp] theorem ar5 {k:IntKind} {a:Nat}:(Nd.conv k a).den I val=Z9 k (val a):=rfl
@[simp] theorem aqZ {k k':IntKind} {n:Int}:Z9 k (some (.i k' n))=some (.i k (k.wrap n)):=rfl
def len1 (x:Option GV):Option GV:=match x with
 | some (.l xs)=>some (.i .i64 xs.length)
 | _=>none
@[simp] theorem ar9 {a:Nat}:(Nd.len a).den I val=len1 (val a):=rfl
@[simp] theorem arO {xs:List GV}:len1 (some (.l xs))=some (.i .i64 xs.length):=rfl
def adZ (x:Option GV):Option GV:=match x with
 | some (.s x)=>some (.i .i64 x.length)
 | _=>none
@[simp] theorem aso {a:Nat}:(Nd.slen a).den I val=adZ (val a):=rfl
@[simp] theorem asL {x:List UInt8}:adZ (some (.s x))=some (.i .i64 x.length):=rfl
def XC (x i:Option GV):Option GV:=match x,i with
 | some (.s x),some (.i _ k)=>if 0<=k then match x[k.toNat]? with
   | some c=>some (.i .u8 c.toNat)
   | none=>none
   else none
 | _,_=>none
@[simp] theorem asn {a i:Nat}:(Nd.Ci a i).den I val=XC (val a) (val i):=rfl
@[simp] theorem asK {x:List UInt8} {kk:IntKind} {k:Int}:XC (some (.s x)) (some (.i kk k))=if 0<=k then (x[k.toNat]?).bind λc=>some (.i .u8 c.toNat) else none:=by
 simp only [XC];split
 ·cases x[k.toNat]?<;>rfl
 ·rfl
def ad7 (x lo hi:Option GV):Option GV:=match x,lo,hi with
 | some (.s x),some (.i _ l),some (.i _ h)=>if 0<=l/\l<=h/\h<=x.length then some (.s ((x.take h.toNat).drop l.toNat)) else none
 | _,_,_=>none
@[simp] theorem asq {a l h:Nat}:(Nd.Cj a l h).den I val=ad7 (val a) (val l) (val h):=rfl
def acF (z m k:Option GV):Option GV:=match z,m,k with
 | some d,some (.l xs),some g=>some ((eU g xs).getD d)
 | _,_,_=>none
def acG (m k:Option GV):Option GV:=match m,k with
 | some (.l xs),some g=>some (.b (eU g xs).isSome)
 | _,_=>none
def acH (m k v:Option GV):Option GV:=match m,k,v with
 | some (.l xs),some g,some u=>some (.l (iH g u xs))
 | _,_,_=>none
@[simp] theorem asb {z m k:Nat}:(Nd.BR z m k).den I val=acF (val z) (val m) (val k):=rfl
@[simp] theorem asc {m k:Nat}:(Nd.BU m k).den I val=acG (val m) (val k):=rfl
@[simp] theorem ash {m k v:Nat}:(Nd.yF m k v).den I val=acH (val m) (val k) (val v):=rfl
@[simp] theorem arQ {d g:GV} {xs:List GV}:acF (some d) (some (.l xs)) (some g)=some ((eU g xs).getD d):=rfl
@[simp] theorem arR {g:GV} {xs:List GV}:acG (some (.l xs)) (some g)=some (.b (eU g xs).isSome):=rfl
@[simp] theorem arU {g u:GV} {xs:List GV}:acH (some (.l xs)) (some g) (some u)=some (.l (iH g u xs)):=rfl
@[simp] theorem asQ {x:List UInt8} {k k':IntKind} {l h:Int}:ad7 (some (.s x)) (some (.i k l)) (some (.i k' h))=if 0<=l/\l<=h/\h<=x.length then some (.s ((x.take h.toNat).drop l.toNat)) else none:=rfl
def acd (size:Nat) (x lo hi:Option GV):Option GV:=match x,lo,hi with
 | some (.l xs),some (.i _ l),some (.i _ h)=>if 0<=l/\l<=h/\h<=xs.length/\(xs.all λx=>Nat.beq x.cells.length size)=true then some (.l ((xs.take h.toNat).drop l.toNat)) else none
 | _,_,_=>none
@[simp] theorem asa {s a l h:Nat}:(Nd.zX s a l h).den I val=acd s (val a) (val l) (val h):=rfl
@[simp] theorem arP {s:Nat} {xs:List GV} {k k':IntKind} {l h:Int}:acd s (some (.l xs)) (some (.i k l)) (some (.i k' h))=if 0<=l/\l<=h/\h<=xs.length/\(xs.all λx=>Nat.beq x.cells.length s)=true then some (.l ((xs.take h.toNat).drop l.toNat)) else none:=rfl
def aby (x i:Option GV):Option GV:=match x,i with
 | some (.l xs),some (.i _ k)=>if 0<=k/\k < xs.length then some (.i .i64 k) else none
 | _,_=>none
@[simp] theorem ar7 {a i:Nat}:(Nd.idx a i).den I val=aby (val a) (val i):=rfl
@[simp] theorem arN {xs:List GV} {kk:IntKind} {k:Int}:aby (some (.l xs)) (some (.i kk k))=if 0<=k/\k < xs.length then some (.i .i64 k) else none:=rfl
def at2 (size:Nat) (x i:Option GV):Option GV:=match x,i with
 | some (.l xs),some (.i _ k)=>if 0<=k then match xs[k.toNat]? with
   | some x=>if x.cells.length=size then some x else none
   | none=>none
   else none
 | _,_=>none
@[simp] theorem arW {s a i:Nat}:(Nd.at s a i).den I val=at2 s (val a) (val i):=rfl
@[simp] theorem aqk {s:Nat} {xs:List GV} {kk:IntKind} {k:Int}:at2 s (some (.l xs)) (some (.i kk k))=if 0<=k then (xs[k.toNat]?).bind λx=>if x.cells.length=s then some x else none else none:=by
 simp only [at2];split
 ·cases xs[k.toNat]?<;>rfl
 ·rfl
def cell1 (off:Nat) (x:Option GV):Option GV:=match x with
 | some g=>match g.cells[off]? with
   | some c=>if c.scalar then some c else none
   | none=>none
 | none=>none
@[simp] theorem ar2 {o a:Nat}:(Nd.cell o a).den I val=cell1 o (val a):=rfl
@[simp] theorem aqS {o:Nat} {g:GV}:cell1 o (some g)=(g.cells[o]?).bind λc=>if c.scalar=true then some c else none:=by
 simp only [cell1];cases g.cells[o]?<;>rfl
@[simp] theorem ase {l:List Nat}:(Nd.mk l).den I val=(valsOf val l).bind λgs=>if gs.all GV.scalar=true then some (.g gs) else none:=by
 simp only [Nd.den];cases valsOf val l<;>rfl
@[simp] theorem asf {l:List Nat}:(Nd.ml l).den I val=(valsOf val l).bind λgs=>some (.l gs):=by
 simp only [Nd.den];cases valsOf val l<;>rfl
def Y8 (size bs:Nat) (x y:Option GV):Option GV:=match x,y with
 | some (.l xs),some (.l ys)=>if ys.all (GV.fO size)=true/\2 * (xs.length+ys.length) * bs<=2 ^ 48/\xs.length+ys.length<=2 ^ 48 then some (.l (xs++ys)) else none
 | _,_=>none
@[simp] theorem arV {z s a b:Nat}:(Nd.app z s a b).den I val=Y8 z s (val a) (val b):=rfl
@[simp] theorem aqi {z s:Nat} {xs ys:List GV}:Y8 z s (some (.l xs)) (some (.l ys))=if ys.all (GV.fO z)=true/\2 * (xs.length+ys.length) * s<=2 ^ 48/\xs.length+ys.length<=2 ^ 48 then some (.l (xs++ys)) else none:=rfl
def X5 (size off:Nat) (x i:Option GV) (vs:Option (List GV)):Option GV:=match x,i,vs with
 | some (.l xs),some (.i _ k),some gs=>if 0<=k/\gs.all GV.scalar=true then match xs[k.toNat]? with
   | some x=>if x.cells.length=size then (x.put off gs).map λy=>.l (xs.set k.toNat y) else none
   | none=>none
   else none
 | _,_,_=>none
@[simp] theorem asv {s o a i:Nat} {vs:List Nat}:(Nd.upd s o a i vs).den I val=X5 s o (val a) (val i) (valsOf val vs):=rfl
@[simp] theorem asY {s o:Nat} {xs:List GV} {kk:IntKind} {k:Int} {gs:List GV}:X5 s o (some (.l xs)) (some (.i kk k)) (some gs)=if 0<=k/\gs.all GV.scalar=true then (xs[k.toNat]?).bind λx=>if x.cells.length=s then (x.put o gs).map λy=>.l (xs.set k.toNat y) else none else none:=by
 simp only [X5];split
 ·cases xs[k.toNat]?<;>rfl
 ·rfl
@[simp] theorem asA {k:IntKind} {n:Int} {v:GV}:(GV.i k n).put 0 [v]=some v:=rfl
def adG (size SK:Nat) (z l c:Option GV):Option GV:=match z,l,c with
 | some x,some (.i _ n),some (.i _ m)=>if 0<=n/\n<=m/\SK * m<=2 ^ 48/\m<=2 ^ 60/\x.fO size=true then some (.l (List.replicate n.toNat x)) else none
 | _,_,_=>none
@[simp] theorem asi {s b z l c:Nat}:(Nd.rep s b z l c).den I val=adG s b (val z) (val l) (val c):=rfl
@[simp] theorem asB {s b:Nat} {x:GV} {k k':IntKind} {n m:Int}:adG s b (some x) (some (.i k n)) (some (.i k' m))=if 0<=n/\n<=m/\b * m<=2 ^ 48/\m<=2 ^ 60/\x.fO s=true then some (.l (List.replicate n.toNat x)) else none:=by
 cases x<;>rfl
@[simp] theorem ar0 {a:Nat}:(Nd.bytes a).den I val=(val a).bind λg=>match g with | .s x=>some (.l (dZ x)) | _=>none:=by
 simp only [Nd.den];cases val a with
 | none=>rfl
 | some g=>cases g<;>rfl
@[simp] theorem asr {a:Nat}:(Nd.str a).den I val=(val a).bind λg=>match g with | .l xs=>if xs.length<=2 ^ 48 then (mY xs).map .s else none | _=>none:=by
 simp only [Nd.den];cases val a with
 | none=>rfl
 | some g=>cases g<;>rfl
@[simp] theorem asj {a b:Nat}:(Nd.same a b).den I val=(val a).bind λg=>(val b).bind λh=>match g,h with | .l xs,.l ys=>if ys.length=xs.length then some (.l ys) else none | _,_=>none:=by
 simp only [Nd.den];cases val a with
 | none=>rfl
 | some g=>cases val b with
   | none=>cases g<;>rfl
   | some h=>cases g<;>cases h<;>rfl
@[simp] theorem ar8 {a j:Nat}:(Nd.xu a j).den I val=(val a).bind λg=>match g with | .i _ m=>some (.b (decide (m=(j:Int)))) | _=>none:=by
 simp only [Nd.den];cases val a with
 | none=>rfl
 | some g=>cases g<;>rfl
@[simp] theorem asl {a:Nat}:(Nd.Ce a).den I val=(val a).bind λg=>match g with | .s x=>some (.s x) | _=>none:=by
 simp only [Nd.den];cases val a with
 | none=>rfl
 | some g=>cases g<;>rfl
end
section
variable {k:IntKind} {a b:Int}
@[simp] theorem aql:gJ .add (some (.i k a)) (some (.i k b))=some (.i k (k.wrap (a+b))):=by simp [gJ,gq,fG]
@[simp] theorem aqH:gJ .sub (some (.i k a)) (some (.i k b))=some (.i k (k.wrap (a - b))):=by simp [gJ,gq,fG]
@[simp] theorem aqt:gJ .mul (some (.i k a)) (some (.i k b))=some (.i k (k.wrap (a * b))):=by simp [gJ,gq,fG]
@[simp] theorem aqw:gJ .quo (some (.i k a)) (some (.i k b))=if b=0 then none else some (.i k (k.wrap (a.tdiv b))):=by simp [gJ,gq,fG]
@[simp] theorem aqx:gJ .rem (some (.i k a)) (some (.i k b))=if b=0 then none else some (.i k (a.tmod b)):=by simp [gJ,gq,fG]
@[simp] theorem aqn:gJ .eql (some (.i k a)) (some (.i k b))=some (.b (decide (a=b))):=by
 simp only [gJ,gq,fG,if_true];rw [show (a==b)=decide (a=b) from rfl]
@[simp] theorem aqu:gJ .neq (some (.i k a)) (some (.i k b))=some (.b (decide (a≠b))):=by
 simp only [gJ,gq,fG,if_true,bne];rw [show (a==b)=decide (a=b) from rfl,<- decide_not]
@[simp] theorem aqs:gJ .lss (some (.i k a)) (some (.i k b))=some (.b (decide (a < b))):=by simp [gJ,gq,fG]
@[simp] theorem aqr:gJ .leq (some (.i k a)) (some (.i k b))=some (.b (decide (a<=b))):=by simp [gJ,gq,fG]
@[simp] theorem aqp:gJ .gtr (some (.i k a)) (some (.i k b))=some (.b (decide (b < a))):=by simp [gJ,gq,fG]
@[simp] theorem aqo:gJ .geq (some (.i k a)) (some (.i k b))=some (.b (decide (b<=a))):=by simp [gJ,gq,fG]
@[simp] theorem aqm:gJ .and (some (.i k a)) (some (.i k b))=fG .and k a b:=by simp [gJ,gq]
@[simp] theorem aqv:gJ .or (some (.i k a)) (some (.i k b))=fG .or k a b:=by simp [gJ,gq]
@[simp] theorem aqI:gJ .xor (some (.i k a)) (some (.i k b))=fG .xor k a b:=by simp [gJ,gq]
@[simp] theorem aqC {k':IntKind}:gJ .shl (some (.i k a)) (some (.i k' b))=mM .shl k a b:=rfl
@[simp] theorem aqD {k':IntKind}:gJ .shr (some (.i k a)) (some (.i k' b))=mM .shr k a b:=rfl
end
section
variable {a b:List UInt8}
@[simp] theorem aqy:gJ .add (some (.s a)) (some (.s b))=if ((a.length+b.length:Nat):Int)<=9223372036854775807 then some (.s (a++b)) else none:=by
 simp only [gJ,gq,uq];rfl
@[simp] theorem aqz:gJ .eql (some (.s a)) (some (.s b))=some (.b (decide (a=b))):=by
 simp only [gJ,gq,uq];congr 2;rw [oU];simp
@[simp] theorem aqG:gJ .neq (some (.s a)) (some (.s b))=some (.b (decide (a≠b))):=by
 simp only [gJ,gq,uq];congr 2;rw [oU];simp
@[simp] theorem aqF:gJ .lss (some (.s a)) (some (.s b))=some (.b (Op.bytesLess a b)):=rfl
@[simp] theorem aqA:gJ .geq (some (.s a)) (some (.s b))=some (.b (!(Op.bytesLess a b))):=rfl
@[simp] theorem aqE:gJ .leq (some (.s a)) (some (.s b))=some (.b (Op.bytesLess a b || a==b)):=rfl
@[simp] theorem aqB:gJ .gtr (some (.s a)) (some (.s b))=some (.b (!(Op.bytesLess a b || a==b))):=rfl
end
@[simp] theorem aqJ {a b:Bool}:SI .eql (some (.b a)) (some (.b b))=some (.b (a==b)):=rfl
@[simp] theorem aqK {a b:Bool}:SI .neq (some (.b a)) (some (.b b))=some (.b (!(a==b))):=rfl
@[simp] theorem aqL {ks:List Nat} {a b:List GV}:I9 .eql ks (some (.g a)) (some (.g b))=(lS ks a b).bind λr=>some (.b r):=by
 simp only [I9,FP];cases lS ks a b<;>rfl
@[simp] theorem aqM {ks:List Nat} {a b:List GV}:I9 .neq ks (some (.g a)) (some (.g b))=(lS ks a b).bind λr=>some (.b (!r)):=by
 simp only [I9,FP];cases lS ks a b<;>rfl
@[simp] theorem asX {a:Bool}:X0 .not (some (.b a))=some (.b (!a)):=rfl
@[simp] theorem asW {k:IntKind} {a:Int}:X0 .neg (some (.i k a))=some (.i k (k.wrap (0 - a))):=rfl
@[simp] theorem S9 {cs:List GV}:(GV.g cs).cells=cs:=rfl
@[simp] theorem aqU {k:IntKind} {n:Int}:(GV.i k n).cells=[.i k n]:=rfl
@[simp] theorem aqT {x:Bool}:(GV.b x).cells=[.b x]:=rfl
@[simp] theorem aqW {x:List UInt8}:(GV.s x).cells=[.s x]:=rfl
@[simp] theorem aqV {x:List GV}:(GV.l x).cells=[.l x]:=rfl
@[simp] theorem asG {cs:List GV}:(GV.g cs).scalar=false:=rfl
@[simp] theorem asH {k:IntKind} {n:Int}:(GV.i k n).scalar=true:=rfl
@[simp] theorem asF {x:Bool}:(GV.b x).scalar=true:=rfl
@[simp] theorem asJ {x:List UInt8}:(GV.s x).scalar=true:=rfl
@[simp] theorem asI {x:List GV}:(GV.l x).scalar=true:=rfl
theorem bD {Ds:List aH} {k:Nat} {si so:List mQ} {t:Tree} {gs out:List GV} (hk:Ds[k]? = some (.fn si so t)) (hi:nO si gs=true) (h:t.go (vJ Ds).lim gs.length (SE gs)=some out) (ho:nO so out=true):(vJ Ds).lim k gs=some out:=by
 have h:t.den (vJ Ds).lim gs=some out:=(Tree.JA t gs).symm.trans h;exact Ea hk (by simp only [aH.den,aj hi,h,aj ho])
theorem aG {Ds:List aH} {k n:Nat} {t:Tree} {gs out:List GV} (hk:Ds[k]? = some (.tree n t)) (hn:gs.length=n) (h:t.go (vJ Ds).lim gs.length (SE gs)=some out):(vJ Ds).lim k gs=some out:=by
 have h:t.den (vJ Ds).lim gs=some out:=(Tree.JA t gs).symm.trans h;exact Ea hk (by simp only [aH.den,aj hn,h])
theorem KW {Ds:List aH} {k:Nat} {f:List GV->Option (List GV)} {gs out:List GV} (hk:Ds[k]? = some (.vV f)) (h:f gs=some out):(vJ Ds).lim k gs=some out:=
 Ea hk h
theorem aiU {gs:List GV} (h:hasArgs [] gs):gs=[]:=by simpa only [hasArgs] using h
theorem abe {l:List bG} {r:List (Bool×List bG)} {gs:List GV} (h:hasArgs ((true,l)::r) gs):∃cs gs',gs=.g cs::gs'/\bG.iw l cs/\hasArgs r gs':=by
 simp only [hasArgs] at h;obtain ⟨g,gs',rfl,h1,h2,h3⟩:=h;cases g<;>simp [GV.scalar] at h2
 exact ⟨_,_,rfl,h1,h3⟩
theorem iy {t:bG} {l:List bG} {gs:List GV} (h:bG.iw (t::l) gs):∃g r,gs=g::r/\t.has g/\bG.iw l r:=by simpa only [bG.iw] using h
theorem Gv {gs:List GV} (h:bG.iw [] gs):gs=[]:=by simpa only [bG.iw] using h
theorem abf {t:bG} {r:List (Bool×List bG)} {gs:List GV} (h:hasArgs ((false,[t])::r) gs):∃g gs',gs=g::gs'/\t.has g/\hasArgs r gs':=by
 simp only [hasArgs] at h;obtain ⟨g,gs',rfl,h1,h2,h3⟩:=h;refine ⟨_,_,rfl, ?_,h3⟩;obtain ⟨g0,r0,e,h4,h5⟩:=iy h1;cases g<;>simp [GV.scalar] at h2<;>simp only [GV.cells,Md] at e<;>rw [e.1]<;>exact h4
theorem oJ {g:GV} (h:(bG.int .u64).has g):∃n,g=.i .u64 n/\0<=n/\n < 18446744073709551616:=by
 simp only [bG.has] at h;obtain ⟨n,rfl,h1,h2⟩:=h;exact ⟨n,rfl,by simpa [IntKind.min,IntKind.signed] using h1,by simp [IntKind.max,IntKind.signed,IntKind.bits] at h2;omega⟩
theorem zN {g:GV} (h:bG.str.has g):∃s,g=.s s/\s.length<=reachBytes:=by simpa only [bG.has] using h
theorem JG {b:Bool} {e:List bG} {g:GV} (h:(bG.list b e).has g):∃xs,g=.l xs/\xs.length<=reachBytes/\∀x∈xs,bG.iw e x.cells/\x.scalar = !b:=by simpa only [bG.has] using h
theorem GN {α:Type} {f:α->GV} {p:α->Prop}:∀ {xs:List GV},(∀x∈xs,∃r,p r/\x=f r)->∃rs:List α,(∀r∈rs,p r)/\xs=rs.map f
 | [],_=>⟨[],by simp,rfl⟩
 | x::xs,h=>by
   obtain ⟨r,h1,h2⟩:=h x (by simp);obtain ⟨rs,h3,h4⟩:=GN (xs:=xs) λy hy=>h y (by simp [hy]);refine ⟨r::rs,λq hq=>?_,by rw [h2,h4];rfl⟩;rcases bU.1 hq with rfl | hq
   ·exact h1
   ·exact h3 q hq
theorem wrap64 {n:Int} (h0 : -9223372036854775808<=n) (h1:n<=9223372036854775807):IntKind.i64.wrap n=n:=by
 have:IntKind.i64.wrap n=if n % 18446744073709551616>=9223372036854775808 then n % 18446744073709551616 - 18446744073709551616 else n % 18446744073709551616:=by
  simp [IntKind.wrap,IntKind.signed,IntKind.bits]
 rw [this];split<;>omega
theorem kE {n:Int} (h0:0<=n) (h1:n < 18446744073709551616):IntKind.u64.wrap n=n:=by
 have:IntKind.u64.wrap n=n % 18446744073709551616:=by
  simp [IntKind.wrap,IntKind.signed,IntKind.bits]
 rw [this];omega
end Go.aN
