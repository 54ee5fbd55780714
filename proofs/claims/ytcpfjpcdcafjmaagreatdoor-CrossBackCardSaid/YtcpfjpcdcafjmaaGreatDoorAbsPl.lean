/- Plain laws over trees: values of one's own as ground values; how a tree is gone through. -/
import Derived.Test.YtcpfjpcdcafjmaaGreatDoorAbsJ
namespace Go.aO
set_option linter.unusedSimpArgs false
theorem Fz {Ds:List aI} {k:Nat} {d:aI} {gs out:List GV} (hk:Ds[k]? = some d) (h:d.den (xg Ds).lim gs=some out):(xg Ds).lim k gs=some out:=gX.ak0 hk h
def upd (val:Nat->Option GV) (k:Nat) (g:GV):Nat->Option GV:=λn=>if n=k then some g else val n
def Tn (gs:List GV):Nat->Option GV:=λn=>gs[n]?
@[simp] theorem atl {gs:List GV} {n:Nat}:Tn gs n=gs[n]?:=rfl
@[simp] theorem upd_same {val:Nat->Option GV} {k:Nat} {g:GV}:upd val k g k=some g:=aj rfl
@[simp] theorem upd_ne {val:Nat->Option GV} {k n:Nat} {g:GV} (h:n≠k):upd val k g n=val n:=ah h
def Tree.go (I:gV):Tree->Nat->(Nat->Option GV)->Option (List GV)
 | .step nd t,k,val=>match nd.den I val with
   | some g=>t.go I (k+1) (upd val k g)
   | none=>none
 | .ite n t e,k,val=>match val n with
   | some (.b true)=>t.go I k val
   | some (.b false)=>e.go I k val
   | _=>none
 | .ret l,_,val=>valsOf val l
 | .tail f l,_,val=>match valsOf val l with
   | some gs=>I f gs
   | none=>none
 | .dead,_,_=>none
theorem Tree.KJ {I:gV}:∀ (t:Tree) (env:List GV),t.go I env.length (λn=>env[n]?)=t.den I env
 | .step nd t,env=>by
   simp only [Tree.go,Tree.den];cases nd.den I λn=>env[n]? with
   | none=>rfl
   | some g=>
     simp only;rw [<- Tree.KJ t (env++[g])];congr 1
     ·simp
     ·funext n
      unfold upd;split
      ·next h=>subst h;simp
      ·next h=>
       show env[n]? = (env++[g])[n]?
       rcases yP n env.length with hl | hl
       ·rw [nC hl]
       ·rw [uD hl,wR (l:=env) hl,wR]
        simp;omega
 | .ite n t e,env=>by simp only [Tree.go,Tree.den,Tree.KJ t env,Tree.KJ e env];rfl
 | .ret l,env=>rfl
 | .tail f l,env=>rfl
 | .dead,env=>rfl
def Zw (o:Option GV) (I:gV) (t:Tree) (k:Nat) (val:Nat->Option GV):Option (List GV):=match o with
 | some g=>t.go I (k+1) (upd val k g)
 | none=>none
def aak (o:Option GV) (I:gV) (t e:Tree) (k:Nat) (val:Nat->Option GV):Option (List GV):=match o with
 | some (.b true)=>t.go I k val
 | some (.b false)=>e.go I k val
 | _=>none
section
variable {I:gV} {k:Nat} {val:Nat->Option GV}
@[simp] theorem af7 {g:GV} {t:Tree}:Zw (some g) I t k val=t.go I (k+1) (upd val k g):=rfl
@[simp] theorem at7 {c:Bool} {t e:Tree}:aak (some (.b c)) I t e k val=if c=true then t.go I k val else e.go I k val:=by cases c<;>rfl
@[simp] theorem arQ {nd:Nd} {t:Tree}:(Tree.step nd t).go I k val=Zw (nd.den I val) I t k val:=rfl
@[simp] theorem avQ {n:Nat} {t e:Tree}:(Tree.ite n t e).go I k val=aak (val n) I t e k val:=rfl
@[simp] theorem avR {l:List Nat}:(Tree.ret l).go I k val=valsOf val l:=rfl
@[simp] theorem avP:Tree.dead.go I k val=none:=rfl
@[simp] theorem avS {f:Nat} {l:List Nat}:(Tree.tail f l).go I k val=(valsOf val l).bind (I f):=by
 simp only [Tree.go];cases valsOf val l<;>rfl
end
@[simp] theorem amn {I:gV} {f j:Nat} {l:List Nat} {val:Nat->Option GV}:(Nd.call f l j).den I val=(valsOf val l).bind λgs=>(I f gs).bind λr=>r[j]?:=by
 simp only [Nd.den];cases valsOf val l with
 | none=>rfl
 | some gs=>simp only [Ac];cases I f gs<;>rfl
@[simp] theorem avW {val:Nat->Option GV}:valsOf val []=some []:=rfl
@[simp] theorem afe {val:Nat->Option GV} {n:Nat} {l:List Nat}:valsOf val (n::l)=(val n).bind λg=>(valsOf val l).bind λr=>some (g::r):=by
 simp only [valsOf];cases val n<;>cases valsOf val l<;>rfl
def gY (op:BinOp) (x y:Option GV):Option GV:=match x,y with
 | some a,some b=>gK op a b
 | _,_=>none
def Tv (op:BinOp) (x y:Option GV):Option GV:=match x,y with
 | some a,some b=>Oe op a b
 | _,_=>none
def JX (op:BinOp) (ks:List Nat) (x y:Option GV):Option GV:=match x,y with
 | some a,some b=>Hl op ks a b
 | _,_=>none
def Ye (op:UnOp) (x:Option GV):Option GV:=match x with
 | some a=>RH op a
 | none=>none
section
variable {I:gV} {val:Nat->Option GV}
@[simp] theorem au9 {k:IntKind} {n:Int}:(Nd.ci k n).den I val=some (.i k n):=rfl
@[simp] theorem au7 {x:Bool}:(Nd.cb x).den I val=some (.b x):=rfl
@[simp] theorem avb {x:List UInt8}:(Nd.cs x).den I val=some (.s x):=rfl
@[simp] theorem au3 {op:BinOp} {a b:Nat}:(Nd.bin op a b).den I val=gY op (val a) (val b):=rfl
@[simp] theorem au4 {op:BinOp} {a b:Nat}:(Nd.CJ op a b).den I val=Tv op (val a) (val b):=rfl
@[simp] theorem au5 {op:BinOp} {ks:List Nat} {a b:Nat}:(Nd.CO op ks a b).den I val=JX op ks (val a) (val b):=rfl
@[simp] theorem avt {op:UnOp} {a:Nat}:(Nd.un op a).den I val=Ye op (val a):=rfl
def Lu (big:Bool) (x y:Option GV):Option GV:=match x,y with
 | some (.i k x),some (.i k' y)=>if k=k' then some (.i k (if big then (if x < y then y else x) else (if y < x then y else x))) else none
 | _,_=>none
@[simp] theorem avk {g:Bool} {a b:Nat}:(Nd.mm g a b).den I val=Lu g (val a) (val b):=rfl
@[simp] theorem auZ {k:IntKind} {x y:Int}:Lu true (some (.i k x)) (some (.i k y))=some (.i k (if x < y then y else x)):=by simp [Lu]
@[simp] theorem auY {k:IntKind} {x y:Int}:Lu false (some (.i k x)) (some (.i k y))=some (.i k (if y < x then y else x)):=by simp [Lu]
def aam (k:IntKind) (x:Option GV):Option GV:=match x with
 | some (.i _ n)=>some (.i k (k.wrap n))
 | _=>none
@[simp] theorem ava {k:IntKind} {a:Nat}:(Nd.conv k a).den I val=aam k (val a):=rfl
@[simp] theorem aua {k k':IntKind} {n:Int}:aam k (some (.i k' n))=some (.i k (k.wrap n)):=rfl
def len1 (x:Option GV):Option GV:=match x with
 | some (.l xs)=>some (.i .i64 xs.length)
 | _=>none
@[simp] theorem ave {a:Nat}:(Nd.len a).den I val=len1 (val a):=rfl
@[simp] theorem auU {xs:List GV}:len1 (some (.l xs))=some (.i .i64 xs.length):=rfl
def aez (x:Option GV):Option GV:=match x with
 | some (.s x)=>some (.i .i64 x.length)
 | _=>none
@[simp] theorem avq {a:Nat}:(Nd.slen a).den I val=aez (val a):=rfl
@[simp] theorem avL {x:List UInt8}:aez (some (.s x))=some (.i .i64 x.length):=rfl
def XQ (x i:Option GV):Option GV:=match x,i with
 | some (.s x),some (.i _ k)=>if 0<=k then match x[k.toNat]? with
   | some c=>some (.i .u8 c.toNat)
   | none=>none
   else none
 | _,_=>none
@[simp] theorem avp {a i:Nat}:(Nd.Ec a i).den I val=XQ (val a) (val i):=rfl
@[simp] theorem avK {x:List UInt8} {kk:IntKind} {k:Int}:XQ (some (.s x)) (some (.i kk k))=if 0<=k then (x[k.toNat]?).bind λc=>some (.i .u8 c.toNat) else none:=by
 simp only [XQ];split
 ·cases x[k.toNat]?<;>rfl
 ·rfl
def aeG (x lo hi:Option GV):Option GV:=match x,lo,hi with
 | some (.s x),some (.i _ l),some (.i _ h)=>if 0<=l/\l<=h/\h<=x.length then some (.s ((x.take h.toNat).drop l.toNat)) else none
 | _,_,_=>none
@[simp] theorem avr {a l h:Nat}:(Nd.Ed a l h).den I val=aeG (val a) (val l) (val h):=rfl
def ade (z m k:Option GV):Option GV:=match z,m,k with
 | some d,some (.l xs),some g=>some ((fQ g xs).getD d)
 | _,_,_=>none
def adf (m k:Option GV):Option GV:=match m,k with
 | some (.l xs),some g=>some (.b (fQ g xs).isSome)
 | _,_=>none
def adg (m k v:Option GV):Option GV:=match m,k,v with
 | some (.l xs),some g,some u=>some (.l (iO g u xs))
 | _,_,_=>none
@[simp] theorem avg {z m k:Nat}:(Nd.Dw z m k).den I val=ade (val z) (val m) (val k):=rfl
@[simp] theorem avh {m k:Nat}:(Nd.Dx m k).den I val=adf (val m) (val k):=rfl
@[simp] theorem avl {m k v:Nat}:(Nd.zx m k v).den I val=adg (val m) (val k) (val v):=rfl
@[simp] theorem auW {d g:GV} {xs:List GV}:ade (some d) (some (.l xs)) (some g)=some ((fQ g xs).getD d):=rfl
@[simp] theorem auX {g:GV} {xs:List GV}:adf (some (.l xs)) (some g)=some (.b (fQ g xs).isSome):=rfl
@[simp] theorem au0 {g u:GV} {xs:List GV}:adg (some (.l xs)) (some g) (some u)=some (.l (iO g u xs)):=rfl
@[simp] theorem avO {x:List UInt8} {k k':IntKind} {l h:Int}:aeG (some (.s x)) (some (.i k l)) (some (.i k' h))=if 0<=l/\l<=h/\h<=x.length then some (.s ((x.take h.toNat).drop l.toNat)) else none:=rfl
def acR (size:Nat) (x lo hi:Option GV):Option GV:=match x,lo,hi with
 | some (.l xs),some (.i _ l),some (.i _ h)=>if 0<=l/\l<=h/\h<=xs.length/\(xs.all λx=>Nat.beq x.cells.length size)=true then some (.l ((xs.take h.toNat).drop l.toNat)) else none
 | _,_,_=>none
@[simp] theorem avf {s a l h:Nat}:(Nd.A8 s a l h).den I val=acR s (val a) (val l) (val h):=rfl
@[simp] theorem auV {s:Nat} {xs:List GV} {k k':IntKind} {l h:Int}:acR s (some (.l xs)) (some (.i k l)) (some (.i k' h))=if 0<=l/\l<=h/\h<=xs.length/\(xs.all λx=>Nat.beq x.cells.length s)=true then some (.l ((xs.take h.toNat).drop l.toNat)) else none:=rfl
def acd (x i:Option GV):Option GV:=match x,i with
 | some (.l xs),some (.i _ k)=>if 0<=k/\k < xs.length then some (.i .i64 k) else none
 | _,_=>none
@[simp] theorem avc {a i:Nat}:(Nd.idx a i).den I val=acd (val a) (val i):=rfl
@[simp] theorem auT {xs:List GV} {kk:IntKind} {k:Int}:acd (some (.l xs)) (some (.i kk k))=if 0<=k/\k < xs.length then some (.i .i64 k) else none:=rfl
def at2 (size:Nat) (x i:Option GV):Option GV:=match x,i with
 | some (.l xs),some (.i _ k)=>if 0<=k then match xs[k.toNat]? with
   | some x=>if x.cells.length=size then some x else none
   | none=>none
   else none
 | _,_=>none
@[simp] theorem au2 {s a i:Nat}:(Nd.at s a i).den I val=at2 s (val a) (val i):=rfl
@[simp] theorem atm {s:Nat} {xs:List GV} {kk:IntKind} {k:Int}:at2 s (some (.l xs)) (some (.i kk k))=if 0<=k then (xs[k.toNat]?).bind λx=>if x.cells.length=s then some x else none else none:=by
 simp only [at2];split
 ·cases xs[k.toNat]?<;>rfl
 ·rfl
def cell1 (off:Nat) (x:Option GV):Option GV:=match x with
 | some g=>match g.cells[off]? with
   | some c=>if c.scalar then some c else none
   | none=>none
 | none=>none
@[simp] theorem au8 {o a:Nat}:(Nd.cell o a).den I val=cell1 o (val a):=rfl
@[simp] theorem atW {o:Nat} {g:GV}:cell1 o (some g)=(g.cells[o]?).bind λc=>if c.scalar=true then some c else none:=by
 simp only [cell1];cases g.cells[o]?<;>rfl
@[simp] theorem avi {l:List Nat}:(Nd.mk l).den I val=(valsOf val l).bind λgs=>if gs.all GV.scalar=true then some (.g gs) else none:=by
 simp only [Nd.den];cases valsOf val l<;>rfl
@[simp] theorem avj {l:List Nat}:(Nd.ml l).den I val=(valsOf val l).bind λgs=>some (.l gs):=by
 simp only [Nd.den];cases valsOf val l<;>rfl
def Zl (size bs:Nat) (x y:Option GV):Option GV:=match x,y with
 | some (.l xs),some (.l ys)=>if ys.all (GV.fU size)=true/\2 * (xs.length+ys.length) * bs<=2 ^ 48/\xs.length+ys.length<=2 ^ 48 then some (.l (xs++ys)) else none
 | _,_=>none
@[simp] theorem au1 {z s a b:Nat}:(Nd.app z s a b).den I val=Zl z s (val a) (val b):=rfl
@[simp] theorem atj {z s:Nat} {xs ys:List GV}:Zl z s (some (.l xs)) (some (.l ys))=if ys.all (GV.fU z)=true/\2 * (xs.length+ys.length) * s<=2 ^ 48/\xs.length+ys.length<=2 ^ 48 then some (.l (xs++ys)) else none:=rfl
def Yh (size off:Nat) (x i:Option GV) (vs:Option (List GV)):Option GV:=match x,i,vs with
 | some (.l xs),some (.i _ k),some gs=>if 0<=k/\gs.all GV.scalar=true then match xs[k.toNat]? with
   | some x=>if x.cells.length=size then (x.put off gs).map λy=>.l (xs.set k.toNat y) else none
   | none=>none
   else none
 | _,_,_=>none
@[simp] theorem avu {s o a i:Nat} {vs:List Nat}:(Nd.upd s o a i vs).den I val=Yh s o (val a) (val i) (valsOf val vs):=rfl
@[simp] theorem avV {s o:Nat} {xs:List GV} {kk:IntKind} {k:Int} {gs:List GV}:Yh s o (some (.l xs)) (some (.i kk k)) (some gs)=if 0<=k/\gs.all GV.scalar=true then (xs[k.toNat]?).bind λx=>if x.cells.length=s then (x.put o gs).map λy=>.l (xs.set k.toNat y) else none else none:=by
 simp only [Yh];split
 ·cases xs[k.toNat]?<;>rfl
 ·rfl
@[simp] theorem avz {k:IntKind} {n:Int} {v:GV}:(GV.i k n).put 0 [v]=some v:=rfl
def aed (size Tz:Nat) (z l c:Option GV):Option GV:=match z,l,c with
 | some x,some (.i _ n),some (.i _ m)=>if 0<=n/\n<=m/\Tz * m<=2 ^ 48/\m<=2 ^ 60/\x.fU size=true then some (.l (List.replicate n.toNat x)) else none
 | _,_,_=>none
@[simp] theorem avm {s b z l c:Nat}:(Nd.rep s b z l c).den I val=aed s b (val z) (val l) (val c):=rfl
@[simp] theorem avA {s b:Nat} {x:GV} {k k':IntKind} {n m:Int}:aed s b (some x) (some (.i k n)) (some (.i k' m))=if 0<=n/\n<=m/\b * m<=2 ^ 48/\m<=2 ^ 60/\x.fU s=true then some (.l (List.replicate n.toNat x)) else none:=by
 cases x<;>rfl
@[simp] theorem au6 {a:Nat}:(Nd.bytes a).den I val=(val a).bind λg=>match g with | .s x=>some (.l (eG x)) | _=>none:=by
 simp only [Nd.den];cases val a with
 | none=>rfl
 | some g=>cases g<;>rfl
@[simp] theorem avs {a:Nat}:(Nd.str a).den I val=(val a).bind λg=>match g with | .l xs=>if xs.length<=2 ^ 48 then (oK xs).map .s else none | _=>none:=by
 simp only [Nd.den];cases val a with
 | none=>rfl
 | some g=>cases g<;>rfl
@[simp] theorem avn {a b:Nat}:(Nd.same a b).den I val=(val a).bind λg=>(val b).bind λh=>match g,h with | .l xs,.l ys=>if ys.length=xs.length then some (.l ys) else none | _,_=>none:=by
 simp only [Nd.den];cases val a with
 | none=>rfl
 | some g=>cases val b with
   | none=>cases g<;>rfl
   | some h=>cases g<;>cases h<;>rfl
@[simp] theorem avd {a j:Nat}:(Nd.yC a j).den I val=(val a).bind λg=>match g with | .i _ m=>some (.b (decide (m=(j:Int)))) | _=>none:=by
 simp only [Nd.den];cases val a with
 | none=>rfl
 | some g=>cases g<;>rfl
@[simp] theorem avo {a:Nat}:(Nd.Eb a).den I val=(val a).bind λg=>match g with | .s x=>some (.s x) | _=>none:=by
 simp only [Nd.den];cases val a with
 | none=>rfl
 | some g=>cases g<;>rfl
end
section
variable {k:IntKind} {a b:Int}
@[simp] theorem atn:gY .add (some (.i k a)) (some (.i k b))=some (.i k (k.wrap (a+b))):=by simp [gY,gK,fJ]
@[simp] theorem atJ:gY .sub (some (.i k a)) (some (.i k b))=some (.i k (k.wrap (a - b))):=by simp [gY,gK,fJ]
@[simp] theorem atv:gY .mul (some (.i k a)) (some (.i k b))=some (.i k (k.wrap (a * b))):=by simp [gY,gK,fJ]
@[simp] theorem aty:gY .quo (some (.i k a)) (some (.i k b))=if b=0 then none else some (.i k (k.wrap (a.tdiv b))):=by simp [gY,gK,fJ]
@[simp] theorem atz:gY .rem (some (.i k a)) (some (.i k b))=if b=0 then none else some (.i k (a.tmod b)):=by simp [gY,gK,fJ]
@[simp] theorem atp:gY .eql (some (.i k a)) (some (.i k b))=some (.b (decide (a=b))):=by
 simp only [gY,gK,fJ,if_true];rw [show (a==b)=decide (a=b) from rfl]
@[simp] theorem atw:gY .neq (some (.i k a)) (some (.i k b))=some (.b (decide (a≠b))):=by
 simp only [gY,gK,fJ,if_true,bne];rw [show (a==b)=decide (a=b) from rfl,<- decide_not]
@[simp] theorem atu:gY .lss (some (.i k a)) (some (.i k b))=some (.b (decide (a < b))):=by simp [gY,gK,fJ]
@[simp] theorem att:gY .leq (some (.i k a)) (some (.i k b))=some (.b (decide (a<=b))):=by simp [gY,gK,fJ]
@[simp] theorem atr:gY .gtr (some (.i k a)) (some (.i k b))=some (.b (decide (b < a))):=by simp [gY,gK,fJ]
@[simp] theorem atq:gY .geq (some (.i k a)) (some (.i k b))=some (.b (decide (b<=a))):=by simp [gY,gK,fJ]
@[simp] theorem ato:gY .and (some (.i k a)) (some (.i k b))=fJ .and k a b:=by simp [gY,gK]
@[simp] theorem atx:gY .or (some (.i k a)) (some (.i k b))=fJ .or k a b:=by simp [gY,gK]
@[simp] theorem atK:gY .xor (some (.i k a)) (some (.i k b))=fJ .xor k a b:=by simp [gY,gK]
@[simp] theorem atE {k':IntKind}:gY .shl (some (.i k a)) (some (.i k' b))=oz .shl k a b:=rfl
@[simp] theorem atF {k':IntKind}:gY .shr (some (.i k a)) (some (.i k' b))=oz .shr k a b:=rfl
end
section
variable {a b:List UInt8}
@[simp] theorem atA:gY .add (some (.s a)) (some (.s b))=if ((a.length+b.length:Nat):Int)<=9223372036854775807 then some (.s (a++b)) else none:=by
 simp only [gY,gK,vM];rfl
@[simp] theorem atB:gY .eql (some (.s a)) (some (.s b))=some (.b (decide (a=b))):=by
 simp only [gY,gK,vM];congr 2;rw [pI];simp
@[simp] theorem atI:gY .neq (some (.s a)) (some (.s b))=some (.b (decide (a≠b))):=by
 simp only [gY,gK,vM];congr 2;rw [pI];simp
@[simp] theorem atH:gY .lss (some (.s a)) (some (.s b))=some (.b (Op.bytesLess a b)):=rfl
@[simp] theorem atC:gY .geq (some (.s a)) (some (.s b))=some (.b (!(Op.bytesLess a b))):=rfl
@[simp] theorem atG:gY .leq (some (.s a)) (some (.s b))=some (.b (Op.bytesLess a b || a==b)):=rfl
@[simp] theorem atD:gY .gtr (some (.s a)) (some (.s b))=some (.b (!(Op.bytesLess a b || a==b))):=rfl
end
@[simp] theorem atM {a b:Bool}:Tv .eql (some (.b a)) (some (.b b))=some (.b (a==b)):=rfl
@[simp] theorem atN {a b:Bool}:Tv .neq (some (.b a)) (some (.b b))=some (.b (!(a==b))):=rfl
@[simp] theorem atO {ks:List Nat} {a b:List GV}:JX .eql ks (some (.g a)) (some (.g b))=(kF ks a b).bind λr=>some (.b r):=by
 simp only [JX,Hl];cases kF ks a b<;>rfl
@[simp] theorem atP {ks:List Nat} {a b:List GV}:JX .neq ks (some (.g a)) (some (.g b))=(kF ks a b).bind λr=>some (.b (!r)):=by
 simp only [JX,Hl];cases kF ks a b<;>rfl
@[simp] theorem avU {a:Bool}:Ye .not (some (.b a))=some (.b (!a)):=rfl
@[simp] theorem avT {k:IntKind} {a:Int}:Ye .neg (some (.i k a))=some (.i k (k.wrap (0 - a))):=rfl
@[simp] theorem TL {cs:List GV}:(GV.g cs).cells=cs:=rfl
@[simp] theorem atY {k:IntKind} {n:Int}:(GV.i k n).cells=[.i k n]:=rfl
@[simp] theorem atX {x:Bool}:(GV.b x).cells=[.b x]:=rfl
@[simp] theorem at1 {x:List UInt8}:(GV.s x).cells=[.s x]:=rfl
@[simp] theorem atZ {x:List GV}:(GV.l x).cells=[.l x]:=rfl
@[simp] theorem avG {cs:List GV}:(GV.g cs).scalar=false:=rfl
@[simp] theorem avH {k:IntKind} {n:Int}:(GV.i k n).scalar=true:=rfl
@[simp] theorem avF {x:Bool}:(GV.b x).scalar=true:=rfl
@[simp] theorem avJ {x:List UInt8}:(GV.s x).scalar=true:=rfl
@[simp] theorem avI {x:List GV}:(GV.l x).scalar=true:=rfl
theorem aW {Ds:List aI} {k:Nat} {si so:List oH} {t:Tree} {gs out:List GV} (hk:Ds[k]? = some (.fn si so t)) (hi:pz si gs=true) (h:t.go (xg Ds).lim gs.length (Tn gs)=some out) (ho:pz so out=true):(xg Ds).lim k gs=some out:=by
 have h:t.den (xg Ds).lim gs=some out:=(Tree.KJ t gs).symm.trans h;exact Fz hk (by simp only [aI.den,aj hi,h,aj ho])
theorem ay {Ds:List aI} {k n:Nat} {t:Tree} {gs out:List GV} (hk:Ds[k]? = some (.tree n t)) (hn:gs.length=n) (h:t.go (xg Ds).lim gs.length (Tn gs)=some out):(xg Ds).lim k gs=some out:=by
 have h:t.den (xg Ds).lim gs=some out:=(Tree.KJ t gs).symm.trans h;exact Fz hk (by simp only [aI.den,aj hn,h])
theorem LX {Ds:List aI} {k:Nat} {f:List GV->Option (List GV)} {gs out:List GV} (hk:Ds[k]? = some (.xE f)) (h:f gs=some out):(xg Ds).lim k gs=some out:=
 Fz hk h
theorem ajG {gs:List GV} (h:hasArgs [] gs):gs=[]:=by simpa only [hasArgs] using h
theorem abS {l:List bJ} {r:List (Bool×List bJ)} {gs:List GV} (h:hasArgs ((true,l)::r) gs):∃cs gs',gs=.g cs::gs'/\bJ.iH l cs/\hasArgs r gs':=by
 simp only [hasArgs] at h;obtain ⟨g,gs',rfl,h1,h2,h3⟩:=h;cases g<;>simp [GV.scalar] at h2
 exact ⟨_,_,rfl,h1,h3⟩
theorem iI {t:bJ} {l:List bJ} {gs:List GV} (h:bJ.iH (t::l) gs):∃g r,gs=g::r/\t.has g/\bJ.iH l r:=by simpa only [bJ.iH] using h
theorem Iq {gs:List GV} (h:bJ.iH [] gs):gs=[]:=by simpa only [bJ.iH] using h
theorem UR {t:bJ} {r:List (Bool×List bJ)} {gs:List GV} (h:hasArgs ((false,[t])::r) gs):∃g gs',gs=g::gs'/\t.has g/\hasArgs r gs':=by
 simp only [hasArgs] at h;obtain ⟨g,gs',rfl,h1,h2,h3⟩:=h;refine ⟨_,_,rfl, ?_,h3⟩;obtain ⟨g0,r0,e,h4,h5⟩:=iI h1;cases g<;>simp [GV.scalar] at h2<;>simp only [GV.cells,Gz] at e<;>rw [e.1]<;>exact h4
theorem qE {g:GV} (h:(bJ.int .u64).has g):∃n,g=.i .u64 n/\0<=n/\n < 18446744073709551616:=by
 simp only [bJ.has] at h;obtain ⟨n,rfl,h1,h2⟩:=h;exact ⟨n,rfl,by simpa [IntKind.min,IntKind.signed] using h1,by simp [IntKind.max,IntKind.signed,IntKind.bits] at h2;omega⟩
theorem AO {g:GV} (h:bJ.str.has g):∃s,g=.s s/\s.length<=reachBytes:=by simpa only [bJ.has] using h
theorem KU {b:Bool} {e:List bJ} {g:GV} (h:(bJ.list b e).has g):∃xs,g=.l xs/\xs.length<=reachBytes/\∀x∈xs,bJ.iH e x.cells/\x.scalar = !b:=by simpa only [bJ.has] using h
theorem IJ {α:Type} {f:α->GV} {p:α->Prop}:∀ {xs:List GV},(∀x∈xs,∃r,p r/\x=f r)->∃rs:List α,(∀r∈rs,p r)/\xs=rs.map f
 | [],_=>⟨[],by simp,rfl⟩
 | x::xs,h=>by
   obtain ⟨r,h1,h2⟩:=h x (by simp);obtain ⟨rs,h3,h4⟩:=IJ (xs:=xs) λy hy=>h y (by simp [hy]);refine ⟨r::rs,λq hq=>?_,by rw [h2,h4];rfl⟩;rcases cO.1 hq with rfl | hq
   ·exact h1
   ·exact h3 q hq
theorem wrap64 {n:Int} (h0 : -9223372036854775808<=n) (h1:n<=9223372036854775807):IntKind.i64.wrap n=n:=by
 have:IntKind.i64.wrap n=if n % 18446744073709551616>=9223372036854775808 then n % 18446744073709551616 - 18446744073709551616 else n % 18446744073709551616:=by
  simp [IntKind.wrap,IntKind.signed,IntKind.bits]
 rw [this];split<;>omega
theorem kK {n:Int} (h0:0<=n) (h1:n < 18446744073709551616):IntKind.u64.wrap n=n:=by
 have:IntKind.u64.wrap n=n % 18446744073709551616:=by
  simp [IntKind.wrap,IntKind.signed,IntKind.bits]
 rw [this];omega
end Go.aO
