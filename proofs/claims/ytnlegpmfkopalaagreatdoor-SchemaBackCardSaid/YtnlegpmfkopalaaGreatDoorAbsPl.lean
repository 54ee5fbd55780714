/- Plain laws over trees: values of one's own as ground values; how a tree is gone through. -/
import Derived.Test.YtnlegpmfkopalaaGreatDoorAbsJ
namespace Go.aN
set_option linter.unusedSimpArgs false
theorem Ej {Ds:List aG} {k:Nat} {d:aG} {gs out:List GV} (hk:Ds[k]? = some d) (h:d.den (vU Ds).lim gs=some out):(vU Ds).lim k gs=some out:=gK.akN hk h
def upd (val:Nat->Option GV) (k:Nat) (g:GV):Nat->Option GV:=λn=>if n=k then some g else val n
def SC (gs:List GV):Nat->Option GV:=λn=>gs[n]?
@[simp] theorem arw {gs:List GV} {n:Nat}:SC gs n=gs[n]?:=rfl
@[simp] theorem upd_same {val:Nat->Option GV} {k:Nat} {g:GV}:upd val k g k=some g:=aj rfl
@[simp] theorem upd_ne {val:Nat->Option GV} {k n:Nat} {g:GV} (h:n≠k):upd val k g n=val n:=ah h
def Tree.go (I:gG):Tree->Nat->(Nat->Option GV)->Option (List GV)
 | .step nd t,k,val=>match nd.den I val with
   | some g=>t.go I (k+1) (upd val k g)
   | none=>none
 | .ite n t e,k,val=>match val n with
   | some (.b true)=>t.go I k val
   | some (.b false)=>e.go I k val
   | _=>none
 | .ret l,_,val=>valsOf val l
 | .tail f l,_,val=>match valsOf val l with
   | some gs=>I f gs
   | none=>none
 | .dead,_,_=>none
theorem Tree.Ko {I:gG}:∀ (t:Tree) (env:List GV),t.go I env.length (λn=>env[n]?)=t.den I env
 | .step nd t,env=>by
   simp only [Tree.go,Tree.den];cases nd.den I λn=>env[n]? with
   | none=>rfl
   | some g=>
     simp only;rw [<- Tree.Ko t (env++[g])];congr 1
     ·simp
     ·funext n
      unfold upd;split
      ·next h=>subst h;simp
      ·next h=>
       show env[n]? = (env++[g])[n]?
       rcases wQ n env.length with hl | hl
       ·rw [kT hl]
       ·rw [sO hl,vN (l:=env) hl,vN]
        simp;omega
 | .ite n t e,env=>by simp only [Tree.go,Tree.den,Tree.Ko t env,Tree.Ko e env];rfl
 | .ret l,env=>rfl
 | .tail f l,env=>rfl
 | .dead,env=>rfl
def Y5 (o:Option GV) (I:gG) (t:Tree) (k:Nat) (val:Nat->Option GV):Option (List GV):=match o with
 | some g=>t.go I (k+1) (upd val k g)
 | none=>none
def ZI (o:Option GV) (I:gG) (t e:Tree) (k:Nat) (val:Nat->Option GV):Option (List GV):=match o with
 | some (.b true)=>t.go I k val
 | some (.b false)=>e.go I k val
 | _=>none
section
variable {I:gG} {k:Nat} {val:Nat->Option GV}
@[simp] theorem afI {g:GV} {t:Tree}:Y5 (some g) I t k val=t.go I (k+1) (upd val k g):=rfl
@[simp] theorem asc {c:Bool} {t e:Tree}:ZI (some (.b c)) I t e k val=if c=true then t.go I k val else e.go I k val:=by cases c<;>rfl
@[simp] theorem aqj {nd:Nd} {t:Tree}:(Tree.step nd t).go I k val=Y5 (nd.den I val) I t k val:=rfl
@[simp] theorem auc {n:Nat} {t e:Tree}:(Tree.ite n t e).go I k val=ZI (val n) I t e k val:=rfl
@[simp] theorem aud {l:List Nat}:(Tree.ret l).go I k val=valsOf val l:=rfl
@[simp] theorem aub:Tree.dead.go I k val=none:=rfl
@[simp] theorem aue {f:Nat} {l:List Nat}:(Tree.tail f l).go I k val=(valsOf val l).bind (I f):=by
 simp only [Tree.go];cases valsOf val l<;>rfl
end
@[simp] theorem alW {I:gG} {f j:Nat} {l:List Nat} {val:Nat->Option GV}:(Nd.call f l j).den I val=(valsOf val l).bind λgs=>(I f gs).bind λr=>r[j]?:=by
 simp only [Nd.den];cases valsOf val l with
 | none=>rfl
 | some gs=>simp only [zi];cases I f gs<;>rfl
@[simp] theorem aui {val:Nat->Option GV}:valsOf val []=some []:=rfl
@[simp] theorem aeL {val:Nat->Option GV} {n:Nat} {l:List Nat}:valsOf val (n::l)=(val n).bind λg=>(valsOf val l).bind λr=>some (g::r):=by
 simp only [valsOf];cases val n<;>cases valsOf val l<;>rfl
def gQ (op:BinOp) (x y:Option GV):Option GV:=match x,y with
 | some a,some b=>gu op a b
 | _,_=>none
def SH (op:BinOp) (x y:Option GV):Option GV:=match x,y with
 | some a,some b=>Nv op a b
 | _,_=>none
def JG (op:BinOp) (ks:List Nat) (x y:Option GV):Option GV:=match x,y with
 | some a,some b=>Gu op ks a b
 | _,_=>none
def Q7 (op:UnOp) (x:Option GV):Option GV:=match x with
 | some a=>Q8 op a
 | none=>none
section
variable {I:gG} {val:Nat->Option GV}
@[simp] theorem atj {k:IntKind} {n:Int}:(Nd.ci k n).den I val=some (.i k n):=rfl
@[simp] theorem ath {x:Bool}:(Nd.cb x).den I val=some (.b x):=rfl
@[simp] theorem atm {x:List UInt8}:(Nd.cs x).den I val=some (.s x):=rfl
@[simp] theorem atd {op:BinOp} {a b:Nat}:(Nd.bin op a b).den I val=gQ op (val a) (val b):=rfl
@[simp] theorem ate {op:BinOp} {a b:Nat}:(Nd.Bd op a b).den I val=SH op (val a) (val b):=rfl
@[simp] theorem atf {op:BinOp} {ks:List Nat} {a b:Nat}:(Nd.Bf op ks a b).den I val=JG op ks (val a) (val b):=rfl
@[simp] theorem atF {op:UnOp} {a:Nat}:(Nd.un op a).den I val=Q7 op (val a):=rfl
def KQ (big:Bool) (x y:Option GV):Option GV:=match x,y with
 | some (.i k x),some (.i k' y)=>if k=k' then some (.i k (if big then (if x < y then y else x) else (if y < x then y else x))) else none
 | _,_=>none
@[simp] theorem atw {g:Bool} {a b:Nat}:(Nd.mm g a b).den I val=KQ g (val a) (val b):=rfl
@[simp] theorem as9 {k:IntKind} {x y:Int}:KQ true (some (.i k x)) (some (.i k y))=some (.i k (if x < y then y else x)):=by simp [KQ]
@[simp] theorem as8 {k:IntKind} {x y:Int}:KQ false (some (.i k x)) (some (.i k y))=some (.i k (if y < x then y else x)):=by simp [KQ]
def ZK (k:IntKind) (x:Option GV):Option GV:=match x with
 | some (.i _ n)=>some (.i k (k.wrap n))
 | _=>none
@[simp] theorem atl {k:IntKind} {a:Nat}:(Nd.conv k a).den I val=ZK k (val a):=rfl
@[simp] theorem ase {k k':IntKind} {n:Int}:ZK k (some (.i k' n))=some (.i k (k.wrap n)):=rfl
def len1 (x:Option GV):Option GV:=match x with
 | some (.l xs)=>some (.i .i64 xs.length)
 | _=>none
@[simp] theorem atp {a:Nat}:(Nd.len a).den I val=len1 (val a):=rfl
@[simp] theorem as4 {xs:List GV}:len1 (some (.l xs))=some (.i .i64 xs.length):=rfl
def adZ (x:Option GV):Option GV:=match x with
 | some (.s x)=>some (.i .i64 x.length)
 | _=>none
@[simp] theorem atC {a:Nat}:(Nd.slen a).den I val=adZ (val a):=rfl
@[simp] theorem atY {x:List UInt8}:adZ (some (.s x))=some (.i .i64 x.length):=rfl
def Xk (x i:Option GV):Option GV:=match x,i with
 | some (.s x),some (.i _ k)=>if 0<=k then match x[k.toNat]? with
   | some c=>some (.i .u8 c.toNat)
   | none=>none
   else none
 | _,_=>none
@[simp] theorem atB {a i:Nat}:(Nd.CQ a i).den I val=Xk (val a) (val i):=rfl
@[simp] theorem atX {x:List UInt8} {kk:IntKind} {k:Int}:Xk (some (.s x)) (some (.i kk k))=if 0<=k then (x[k.toNat]?).bind λc=>some (.i .u8 c.toNat) else none:=by
 simp only [Xk];split
 ·cases x[k.toNat]?<;>rfl
 ·rfl
def ad7 (x lo hi:Option GV):Option GV:=match x,lo,hi with
 | some (.s x),some (.i _ l),some (.i _ h)=>if 0<=l/\l<=h/\h<=x.length then some (.s ((x.take h.toNat).drop l.toNat)) else none
 | _,_,_=>none
@[simp] theorem atD {a l h:Nat}:(Nd.CS a l h).den I val=ad7 (val a) (val l) (val h):=rfl
def ach (z m k:Option GV):Option GV:=match z,m,k with
 | some d,some (.l xs),some g=>some ((gW g xs).getD d)
 | _,_,_=>none
def aci (m k:Option GV):Option GV:=match m,k with
 | some (.l xs),some g=>some (.b (gW g xs).isSome)
 | _,_=>none
def acj (m k v:Option GV):Option GV:=match m,k,v with
 | some (.l xs),some g,some u=>some (.l (kD g u xs))
 | _,_,_=>none
@[simp] theorem atr {z m k:Nat}:(Nd.Cb z m k).den I val=ach (val z) (val m) (val k):=rfl
@[simp] theorem att {m k:Nat}:(Nd.Cc m k).den I val=aci (val m) (val k):=rfl
@[simp] theorem atx {m k v:Nat}:(Nd.yH m k v).den I val=acj (val m) (val k) (val v):=rfl
@[simp] theorem as6 {d g:GV} {xs:List GV}:ach (some d) (some (.l xs)) (some g)=some ((gW g xs).getD d):=rfl
@[simp] theorem as7 {g:GV} {xs:List GV}:aci (some (.l xs)) (some g)=some (.b (gW g xs).isSome):=rfl
@[simp] theorem ata {g u:GV} {xs:List GV}:acj (some (.l xs)) (some g) (some u)=some (.l (kD g u xs)):=rfl
@[simp] theorem aua {x:List UInt8} {k k':IntKind} {l h:Int}:ad7 (some (.s x)) (some (.i k l)) (some (.i k' h))=if 0<=l/\l<=h/\h<=x.length then some (.s ((x.take h.toNat).drop l.toNat)) else none:=rfl
def abT (size:Nat) (x lo hi:Option GV):Option GV:=match x,lo,hi with
 | some (.l xs),some (.i _ l),some (.i _ h)=>if 0<=l/\l<=h/\h<=xs.length/\(xs.all λx=>Nat.beq x.cells.length size)=true then some (.l ((xs.take h.toNat).drop l.toNat)) else none
 | _,_,_=>none
@[simp] theorem atq {s a l h:Nat}:(Nd.zW s a l h).den I val=abT s (val a) (val l) (val h):=rfl
@[simp] theorem as5 {s:Nat} {xs:List GV} {k k':IntKind} {l h:Int}:abT s (some (.l xs)) (some (.i k l)) (some (.i k' h))=if 0<=l/\l<=h/\h<=xs.length/\(xs.all λx=>Nat.beq x.cells.length s)=true then some (.l ((xs.take h.toNat).drop l.toNat)) else none:=rfl
def abb (x i:Option GV):Option GV:=match x,i with
 | some (.l xs),some (.i _ k)=>if 0<=k/\k < xs.length then some (.i .i64 k) else none
 | _,_=>none
@[simp] theorem atn {a i:Nat}:(Nd.idx a i).den I val=abb (val a) (val i):=rfl
@[simp] theorem as3 {xs:List GV} {kk:IntKind} {k:Int}:abb (some (.l xs)) (some (.i kk k))=if 0<=k/\k < xs.length then some (.i .i64 k) else none:=rfl
def at2 (size:Nat) (x i:Option GV):Option GV:=match x,i with
 | some (.l xs),some (.i _ k)=>if 0<=k then match xs[k.toNat]? with
   | some x=>if x.cells.length=size then some x else none
   | none=>none
   else none
 | _,_=>none
@[simp] theorem atc {s a i:Nat}:(Nd.at s a i).den I val=at2 s (val a) (val i):=rfl
@[simp] theorem arx {s:Nat} {xs:List GV} {kk:IntKind} {k:Int}:at2 s (some (.l xs)) (some (.i kk k))=if 0<=k then (xs[k.toNat]?).bind λx=>if x.cells.length=s then some x else none else none:=by
 simp only [at2];split
 ·cases xs[k.toNat]?<;>rfl
 ·rfl
def cell1 (off:Nat) (x:Option GV):Option GV:=match x with
 | some g=>match g.cells[off]? with
   | some c=>if c.scalar then some c else none
   | none=>none
 | none=>none
@[simp] theorem ati {o a:Nat}:(Nd.cell o a).den I val=cell1 o (val a):=rfl
@[simp] theorem ar6 {o:Nat} {g:GV}:cell1 o (some g)=(g.cells[o]?).bind λc=>if c.scalar=true then some c else none:=by
 simp only [cell1];cases g.cells[o]?<;>rfl
@[simp] theorem atu {l:List Nat}:(Nd.mk l).den I val=(valsOf val l).bind λgs=>if gs.all GV.scalar=true then some (.g gs) else none:=by
 simp only [Nd.den];cases valsOf val l<;>rfl
@[simp] theorem atv {l:List Nat}:(Nd.ml l).den I val=(valsOf val l).bind λgs=>some (.l gs):=by
 simp only [Nd.den];cases valsOf val l<;>rfl
def YU (size bs:Nat) (x y:Option GV):Option GV:=match x,y with
 | some (.l xs),some (.l ys)=>if ys.all (GV.fJ size)=true/\2 * (xs.length+ys.length) * bs<=2 ^ 48/\xs.length+ys.length<=2 ^ 48 then some (.l (xs++ys)) else none
 | _,_=>none
@[simp] theorem atb {z s a b:Nat}:(Nd.app z s a b).den I val=YU z s (val a) (val b):=rfl
@[simp] theorem arv {z s:Nat} {xs ys:List GV}:YU z s (some (.l xs)) (some (.l ys))=if ys.all (GV.fJ z)=true/\2 * (xs.length+ys.length) * s<=2 ^ 48/\xs.length+ys.length<=2 ^ 48 then some (.l (xs++ys)) else none:=rfl
def XH (size off:Nat) (x i:Option GV) (vs:Option (List GV)):Option GV:=match x,i,vs with
 | some (.l xs),some (.i _ k),some gs=>if 0<=k/\gs.all GV.scalar=true then match xs[k.toNat]? with
   | some x=>if x.cells.length=size then (x.put off gs).map λy=>.l (xs.set k.toNat y) else none
   | none=>none
   else none
 | _,_,_=>none
@[simp] theorem atG {s o a i:Nat} {vs:List Nat}:(Nd.upd s o a i vs).den I val=XH s o (val a) (val i) (valsOf val vs):=rfl
@[simp] theorem auh {s o:Nat} {xs:List GV} {kk:IntKind} {k:Int} {gs:List GV}:XH s o (some (.l xs)) (some (.i kk k)) (some gs)=if 0<=k/\gs.all GV.scalar=true then (xs[k.toNat]?).bind λx=>if x.cells.length=s then (x.put o gs).map λy=>.l (xs.set k.toNat y) else none else none:=by
 simp only [XH];split
 ·cases xs[k.toNat]?<;>rfl
 ·rfl
@[simp] theorem atM {k:IntKind} {n:Int} {v:GV}:(GV.i k n).put 0 [v]=some v:=rfl
def adF (size SI:Nat) (z l c:Option GV):Option GV:=match z,l,c with
 | some x,some (.i _ n),some (.i _ m)=>if 0<=n/\n<=m/\SI * m<=2 ^ 48/\m<=2 ^ 60/\x.fJ size=true then some (.l (List.replicate n.toNat x)) else none
 | _,_,_=>none
@[simp] theorem aty {s b z l c:Nat}:(Nd.rep s b z l c).den I val=adF s b (val z) (val l) (val c):=rfl
@[simp] theorem atN {s b:Nat} {x:GV} {k k':IntKind} {n m:Int}:adF s b (some x) (some (.i k n)) (some (.i k' m))=if 0<=n/\n<=m/\b * m<=2 ^ 48/\m<=2 ^ 60/\x.fJ s=true then some (.l (List.replicate n.toNat x)) else none:=by
 cases x<;>rfl
@[simp] theorem atg {a:Nat}:(Nd.bytes a).den I val=(val a).bind λg=>match g with | .s x=>some (.l (bK x)) | _=>none:=by
 simp only [Nd.den];cases val a with
 | none=>rfl
 | some g=>cases g<;>rfl
@[simp] theorem atE {a:Nat}:(Nd.str a).den I val=(val a).bind λg=>match g with | .l xs=>if xs.length<=2 ^ 48 then (lH xs).map .s else none | _=>none:=by
 simp only [Nd.den];cases val a with
 | none=>rfl
 | some g=>cases g<;>rfl
@[simp] theorem atz {a b:Nat}:(Nd.same a b).den I val=(val a).bind λg=>(val b).bind λh=>match g,h with | .l xs,.l ys=>if ys.length=xs.length then some (.l ys) else none | _,_=>none:=by
 simp only [Nd.den];cases val a with
 | none=>rfl
 | some g=>cases val b with
   | none=>cases g<;>rfl
   | some h=>cases g<;>cases h<;>rfl
@[simp] theorem ato {a j:Nat}:(Nd.xC a j).den I val=(val a).bind λg=>match g with | .i _ m=>some (.b (decide (m=(j:Int)))) | _=>none:=by
 simp only [Nd.den];cases val a with
 | none=>rfl
 | some g=>cases g<;>rfl
@[simp] theorem atA {a:Nat}:(Nd.CP a).den I val=(val a).bind λg=>match g with | .s x=>some (.s x) | _=>none:=by
 simp only [Nd.den];cases val a with
 | none=>rfl
 | some g=>cases g<;>rfl
end
section
variable {k:IntKind} {a b:Int}
@[simp] theorem arz:gQ .add (some (.i k a)) (some (.i k b))=some (.i k (k.wrap (a+b))):=by simp [gQ,gu,bU]
@[simp] theorem arU:gQ .sub (some (.i k a)) (some (.i k b))=some (.i k (k.wrap (a - b))):=by simp [gQ,gu,bU]
@[simp] theorem arG:gQ .mul (some (.i k a)) (some (.i k b))=some (.i k (k.wrap (a * b))):=by simp [gQ,gu,bU]
@[simp] theorem arJ:gQ .quo (some (.i k a)) (some (.i k b))=if b=0 then none else some (.i k (k.wrap (a.tdiv b))):=by simp [gQ,gu,bU]
@[simp] theorem arK:gQ .rem (some (.i k a)) (some (.i k b))=if b=0 then none else some (.i k (a.tmod b)):=by simp [gQ,gu,bU]
@[simp] theorem arB:gQ .eql (some (.i k a)) (some (.i k b))=some (.b (decide (a=b))):=by
 simp only [gQ,gu,bU,if_true];rw [show (a==b)=decide (a=b) from rfl]
@[simp] theorem arH:gQ .neq (some (.i k a)) (some (.i k b))=some (.b (decide (a≠b))):=by
 simp only [gQ,gu,bU,if_true,bne];rw [show (a==b)=decide (a=b) from rfl,<- decide_not]
@[simp] theorem arF:gQ .lss (some (.i k a)) (some (.i k b))=some (.b (decide (a < b))):=by simp [gQ,gu,bU]
@[simp] theorem arE:gQ .leq (some (.i k a)) (some (.i k b))=some (.b (decide (a<=b))):=by simp [gQ,gu,bU]
@[simp] theorem arD:gQ .gtr (some (.i k a)) (some (.i k b))=some (.b (decide (b < a))):=by simp [gQ,gu,bU]
@[simp] theorem arC:gQ .geq (some (.i k a)) (some (.i k b))=some (.b (decide (b<=a))):=by simp [gQ,gu,bU]
@[simp] theorem arA:gQ .and (some (.i k a)) (some (.i k b))=bU .and k a b:=by simp [gQ,gu]
@[simp] theorem arI:gQ .or (some (.i k a)) (some (.i k b))=bU .or k a b:=by simp [gQ,gu]
@[simp] theorem arV:gQ .xor (some (.i k a)) (some (.i k b))=bU .xor k a b:=by simp [gQ,gu]
@[simp] theorem arP {k':IntKind}:gQ .shl (some (.i k a)) (some (.i k' b))=jI .shl k a b:=rfl
@[simp] theorem arQ {k':IntKind}:gQ .shr (some (.i k a)) (some (.i k' b))=jI .shr k a b:=rfl
end
section
variable {a b:List UInt8}
@[simp] theorem arL:gQ .add (some (.s a)) (some (.s b))=if ((a.length+b.length:Nat):Int)<=9223372036854775807 then some (.s (a++b)) else none:=by
 simp only [gQ,gu,uH];rfl
@[simp] theorem arM:gQ .eql (some (.s a)) (some (.s b))=some (.b (decide (a=b))):=by
 simp only [gQ,gu,uH];congr 2;rw [pJ];simp
@[simp] theorem arT:gQ .neq (some (.s a)) (some (.s b))=some (.b (decide (a≠b))):=by
 simp only [gQ,gu,uH];congr 2;rw [pJ];simp
@[simp] theorem arS:gQ .lss (some (.s a)) (some (.s b))=some (.b (Op.bytesLess a b)):=rfl
@[simp] theorem arN:gQ .geq (some (.s a)) (some (.s b))=some (.b (!(Op.bytesLess a b))):=rfl
@[simp] theorem arR:gQ .leq (some (.s a)) (some (.s b))=some (.b (Op.bytesLess a b || a==b)):=rfl
@[simp] theorem arO:gQ .gtr (some (.s a)) (some (.s b))=some (.b (!(Op.bytesLess a b || a==b))):=rfl
end
@[simp] theorem arW {a b:Bool}:SH .eql (some (.b a)) (some (.b b))=some (.b (a==b)):=rfl
@[simp] theorem arX {a b:Bool}:SH .neq (some (.b a)) (some (.b b))=some (.b (!(a==b))):=rfl
@[simp] theorem arY {ks:List Nat} {a b:List GV}:JG .eql ks (some (.g a)) (some (.g b))=(kX ks a b).bind λr=>some (.b r):=by
 simp only [JG,Gu];cases kX ks a b<;>rfl
@[simp] theorem arZ {ks:List Nat} {a b:List GV}:JG .neq ks (some (.g a)) (some (.g b))=(kX ks a b).bind λr=>some (.b (!r)):=by
 simp only [JG,Gu];cases kX ks a b<;>rfl
@[simp] theorem aug {a:Bool}:Q7 .not (some (.b a))=some (.b (!a)):=rfl
@[simp] theorem auf {k:IntKind} {a:Int}:Q7 .neg (some (.i k a))=some (.i k (k.wrap (0 - a))):=rfl
@[simp] theorem SQ {cs:List GV}:(GV.g cs).cells=cs:=rfl
@[simp] theorem ar8 {k:IntKind} {n:Int}:(GV.i k n).cells=[.i k n]:=rfl
@[simp] theorem ar7 {x:Bool}:(GV.b x).cells=[.b x]:=rfl
@[simp] theorem asa {x:List UInt8}:(GV.s x).cells=[.s x]:=rfl
@[simp] theorem ar9 {x:List GV}:(GV.l x).cells=[.l x]:=rfl
@[simp] theorem atT {cs:List GV}:(GV.g cs).scalar=false:=rfl
@[simp] theorem atU {k:IntKind} {n:Int}:(GV.i k n).scalar=true:=rfl
@[simp] theorem atS {x:Bool}:(GV.b x).scalar=true:=rfl
@[simp] theorem atW {x:List UInt8}:(GV.s x).scalar=true:=rfl
@[simp] theorem atV {x:List GV}:(GV.l x).scalar=true:=rfl
theorem aY {Ds:List aG} {k:Nat} {si so:List mJ} {t:Tree} {gs out:List GV} (hk:Ds[k]? = some (.fn si so t)) (hi:nC si gs=true) (h:t.go (vU Ds).lim gs.length (SC gs)=some out) (ho:nC so out=true):(vU Ds).lim k gs=some out:=by
 have h:t.den (vU Ds).lim gs=some out:=(Tree.Ko t gs).symm.trans h;exact Ej hk (by simp only [aG.den,aj hi,h,aj ho])
theorem aB {Ds:List aG} {k n:Nat} {t:Tree} {gs out:List GV} (hk:Ds[k]? = some (.tree n t)) (hn:gs.length=n) (h:t.go (vU Ds).lim gs.length (SC gs)=some out):(vU Ds).lim k gs=some out:=by
 have h:t.den (vU Ds).lim gs=some out:=(Tree.Ko t gs).symm.trans h;exact Ej hk (by simp only [aG.den,aj hn,h])
theorem IG {Ds:List aG} {k:Nat} {f:List GV->Option (List GV)} {gs out:List GV} (hk:Ds[k]? = some (.sD f)) (h:f gs=some out):(vU Ds).lim k gs=some out:=
 Ej hk h
theorem ajp {gs:List GV} (h:hasArgs [] gs):gs=[]:=by simpa only [hasArgs] using h
theorem ajo {l:List bT} {r:List (Bool×List bT)} {gs:List GV} (h:hasArgs ((true,l)::r) gs):∃cs gs',gs=.g cs::gs'/\bT.iw l cs/\hasArgs r gs':=by
 simp only [hasArgs] at h;obtain ⟨g,gs',rfl,h1,h2,h3⟩:=h;cases g<;>simp [GV.scalar] at h2
 exact ⟨_,_,rfl,h1,h3⟩
theorem iE {t:bT} {l:List bT} {gs:List GV} (h:bT.iw (t::l) gs):∃g r,gs=g::r/\t.has g/\bT.iw l r:=by simpa only [bT.iw] using h
theorem Ku {gs:List GV} (h:bT.iw [] gs):gs=[]:=by simpa only [bT.iw] using h
theorem Un {t:bT} {r:List (Bool×List bT)} {gs:List GV} (h:hasArgs ((false,[t])::r) gs):∃g gs',gs=g::gs'/\t.has g/\hasArgs r gs':=by
 simp only [hasArgs] at h;obtain ⟨g,gs',rfl,h1,h2,h3⟩:=h;refine ⟨_,_,rfl, ?_,h3⟩;obtain ⟨g0,r0,e,h4,h5⟩:=iE h1;cases g<;>simp [GV.scalar] at h2<;>simp only [GV.cells,FX] at e<;>rw [e.1]<;>exact h4
theorem oZ {g:GV} (h:(bT.int .u64).has g):∃n,g=.i .u64 n/\0<=n/\n < 18446744073709551616:=by
 simp only [bT.has] at h;obtain ⟨n,rfl,h1,h2⟩:=h;exact ⟨n,rfl,by simpa [IntKind.min,IntKind.signed] using h1,by simp [IntKind.max,IntKind.signed,IntKind.bits] at h2;omega⟩
theorem BL {g:GV} (h:bT.str.has g):∃s,g=.s s/\s.length<=reachBytes:=by simpa only [bT.has] using h
theorem OT {b:Bool} {e:List bT} {g:GV} (h:(bT.list b e).has g):∃xs,g=.l xs/\xs.length<=reachBytes/\∀x∈xs,bT.iw e x.cells/\x.scalar = !b:=by simpa only [bT.has] using h
theorem KL {α:Type} {f:α->GV} {p:α->Prop}:∀ {xs:List GV},(∀x∈xs,∃r,p r/\x=f r)->∃rs:List α,(∀r∈rs,p r)/\xs=rs.map f
 | [],_=>⟨[],by simp,rfl⟩
 | x::xs,h=>by
   obtain ⟨r,h1,h2⟩:=h x (by simp);obtain ⟨rs,h3,h4⟩:=KL (xs:=xs) λy hy=>h y (by simp [hy]);refine ⟨r::rs,λq hq=>?_,by rw [h2,h4];rfl⟩;rcases dh.1 hq with rfl | hq
   ·exact h1
   ·exact h3 q hq
theorem wrap64 {n:Int} (h0 : -9223372036854775808<=n) (h1:n<=9223372036854775807):IntKind.i64.wrap n=n:=by
 have:IntKind.i64.wrap n=if n % 18446744073709551616>=9223372036854775808 then n % 18446744073709551616 - 18446744073709551616 else n % 18446744073709551616:=by
  simp [IntKind.wrap,IntKind.signed,IntKind.bits]
 rw [this];split<;>omega
theorem jS {n:Int} (h0:0<=n) (h1:n < 18446744073709551616):IntKind.u64.wrap n=n:=by
 have:IntKind.u64.wrap n=n % 18446744073709551616:=by
  simp [IntKind.wrap,IntKind.signed,IntKind.bits]
 rw [this];omega
end Go.aN
