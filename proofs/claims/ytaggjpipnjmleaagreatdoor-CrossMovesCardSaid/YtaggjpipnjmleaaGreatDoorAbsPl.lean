/- Plain laws over trees: values of one's own as ground values; how a tree is gone through. -/
import Derived.Test.YtaggjpipnjmleaaGreatDoorAbsJ
namespace Go.aJ
set_option linter.unusedSimpArgs false
theorem Ej {Ds:List aC} {k:Nat} {d:aC} {gs out:List GV} (hk:Ds[k]? = some d) (h:d.den (vO Ds).lim gs=some out):(vO Ds).lim k gs=some out:=gW.alP hk h
def upd (val:Nat->Option GV) (k:Nat) (g:GV):Nat->Option GV:=λn=>if n=k then some g else val n
def SA (gs:List GV):Nat->Option GV:=λn=>gs[n]?
@[simp] theorem asV {gs:List GV} {n:Nat}:SA gs n=gs[n]?:=rfl
@[simp] theorem upd_same {val:Nat->Option GV} {k:Nat} {g:GV}:upd val k g k=some g:=aj rfl
@[simp] theorem upd_ne {val:Nat->Option GV} {k n:Nat} {g:GV} (h:n≠k):upd val k g n=val n:=ah h
def Tree.go (I:gQ):Tree->Nat->(Nat->Option GV)->Option (List GV)
 | .step nd t,k,val=>match nd.den I val with
   | some g=>t.go I (k+1) (upd val k g)
   | none=>none
 | .ite n t e,k,val=>match val n with
   | some (.b true)=>t.go I k val
   | some (.b false)=>e.go I k val
   | _=>none
 | .ret l,_,val=>valsOf val l
 | .tail f l,_,val=>match valsOf val l with
   | some gs=>I f gs
   | none=>none
 | .dead,_,_=>none
theorem Tree.JY {I:gQ}:∀ (t:Tree) (env:List GV),t.go I env.length (λn=>env[n]?)=t.den I env
 | .step nd t,env=>by
   simp only [Tree.go,Tree.den];cases nd.den I λn=>env[n]? with
   | none=>rfl
   | some g=>
     simp only;rw [<- Tree.JY t (env++[g])];congr 1
     ·simp
     ·funext n
      unfold upd;split
      ·next h=>subst h;simp
      ·next h=>
       show env[n]? = (env++[g])[n]?
       rcases vK n env.length with hl | hl
       ·rw [lN hl]
       ·rw [rY hl,vG (l:=env) hl,vG]
        simp;omega
 | .ite n t e,env=>by simp only [Tree.go,Tree.den,Tree.JY t env,Tree.JY e env];rfl
 | .ret l,env=>rfl
 | .tail f l,env=>rfl
 | .dead,env=>rfl
def Zk (o:Option GV) (I:gQ) (t:Tree) (k:Nat) (val:Nat->Option GV):Option (List GV):=match o with
 | some g=>t.go I (k+1) (upd val k g)
 | none=>none
def Z4 (o:Option GV) (I:gQ) (t e:Tree) (k:Nat) (val:Nat->Option GV):Option (List GV):=match o with
 | some (.b true)=>t.go I k val
 | some (.b false)=>e.go I k val
 | _=>none
section
variable {I:gQ} {k:Nat} {val:Nat->Option GV}
@[simp] theorem afN {g:GV} {t:Tree}:Zk (some g) I t k val=t.go I (k+1) (upd val k g):=rfl
@[simp] theorem atB {c:Bool} {t e:Tree}:Z4 (some (.b c)) I t e k val=if c=true then t.go I k val else e.go I k val:=by cases c<;>rfl
@[simp] theorem arQ {nd:Nd} {t:Tree}:(Tree.step nd t).go I k val=Zk (nd.den I val) I t k val:=rfl
@[simp] theorem avt {n:Nat} {t e:Tree}:(Tree.ite n t e).go I k val=Z4 (val n) I t e k val:=rfl
@[simp] theorem avu {l:List Nat}:(Tree.ret l).go I k val=valsOf val l:=rfl
@[simp] theorem avs:Tree.dead.go I k val=none:=rfl
@[simp] theorem avv {f:Nat} {l:List Nat}:(Tree.tail f l).go I k val=(valsOf val l).bind (I f):=by
 simp only [Tree.go];cases valsOf val l<;>rfl
end
@[simp] theorem amB {I:gQ} {f j:Nat} {l:List Nat} {val:Nat->Option GV}:(Nd.call f l j).den I val=(valsOf val l).bind λgs=>(I f gs).bind λr=>r[j]?:=by
 simp only [Nd.den];cases valsOf val l with
 | none=>rfl
 | some gs=>simp only [zA];cases I f gs<;>rfl
@[simp] theorem avz {val:Nat->Option GV}:valsOf val []=some []:=rfl
@[simp] theorem ae3 {val:Nat->Option GV} {n:Nat} {l:List Nat}:valsOf val (n::l)=(val n).bind λg=>(valsOf val l).bind λr=>some (g::r):=by
 simp only [valsOf];cases val n<;>cases valsOf val l<;>rfl
def gB (op:BinOp) (x y:Option GV):Option GV:=match x,y with
 | some a,some b=>gJ op a b
 | _,_=>none
def SG (op:BinOp) (x y:Option GV):Option GV:=match x,y with
 | some a,some b=>Nr op a b
 | _,_=>none
def Jt (op:BinOp) (ks:List Nat) (x y:Option GV):Option GV:=match x,y with
 | some a,some b=>FW op ks a b
 | _,_=>none
def XL (op:UnOp) (x:Option GV):Option GV:=match x with
 | some a=>QW op a
 | none=>none
section
variable {I:gQ} {val:Nat->Option GV}
@[simp] theorem auO {k:IntKind} {n:Int}:(Nd.ci k n).den I val=some (.i k n):=rfl
@[simp] theorem auM {x:Bool}:(Nd.cb x).den I val=some (.b x):=rfl
@[simp] theorem auQ {x:List UInt8}:(Nd.cs x).den I val=some (.s x):=rfl
@[simp] theorem auI {op:BinOp} {a b:Nat}:(Nd.bin op a b).den I val=gB op (val a) (val b):=rfl
@[simp] theorem auJ {op:BinOp} {a b:Nat}:(Nd.Bo op a b).den I val=SG op (val a) (val b):=rfl
@[simp] theorem auK {op:BinOp} {ks:List Nat} {a b:Nat}:(Nd.Bq op ks a b).den I val=Jt op ks (val a) (val b):=rfl
@[simp] theorem au8 {op:UnOp} {a:Nat}:(Nd.un op a).den I val=XL op (val a):=rfl
def KD (big:Bool) (x y:Option GV):Option GV:=match x,y with
 | some (.i k x),some (.i k' y)=>if k=k' then some (.i k (if big then (if x < y then y else x) else (if y < x then y else x))) else none
 | _,_=>none
@[simp] theorem auZ {g:Bool} {a b:Nat}:(Nd.mm g a b).den I val=KD g (val a) (val b):=rfl
@[simp] theorem auE {k:IntKind} {x y:Int}:KD true (some (.i k x)) (some (.i k y))=some (.i k (if x < y then y else x)):=by simp [KD]
@[simp] theorem auD {k:IntKind} {x y:Int}:KD false (some (.i k x)) (some (.i k y))=some (.i k (if y < x then y else x)):=by simp [KD]
def Z7 (k:IntKind) (x:Option GV):Option GV:=match x with
 | some (.i _ n)=>some (.i k (k.wrap n))
 | _=>none
@[simp] theorem auP {k:IntKind} {a:Nat}:(Nd.conv k a).den I val=Z7 k (val a):=rfl
@[simp] theorem atC {k k':IntKind} {n:Int}:Z7 k (some (.i k' n))=some (.i k (k.wrap n)):=rfl
def len1 (x:Option GV):Option GV:=match x with
 | some (.l xs)=>some (.i .i64 xs.length)
 | _=>none
@[simp] theorem auT {a:Nat}:(Nd.len a).den I val=len1 (val a):=rfl
@[simp] theorem auz {xs:List GV}:len1 (some (.l xs))=some (.i .i64 xs.length):=rfl
def aeg (x:Option GV):Option GV:=match x with
 | some (.s x)=>some (.i .i64 x.length)
 | _=>none
@[simp] theorem au5 {a:Nat}:(Nd.slen a).den I val=aeg (val a):=rfl
@[simp] theorem avo {x:List UInt8}:aeg (some (.s x))=some (.i .i64 x.length):=rfl
def Xq (x i:Option GV):Option GV:=match x,i with
 | some (.s x),some (.i _ k)=>if 0<=k then match x[k.toNat]? with
   | some c=>some (.i .u8 c.toNat)
   | none=>none
   else none
 | _,_=>none
@[simp] theorem au4 {a i:Nat}:(Nd.CU a i).den I val=Xq (val a) (val i):=rfl
@[simp] theorem avn {x:List UInt8} {kk:IntKind} {k:Int}:Xq (some (.s x)) (some (.i kk k))=if 0<=k then (x[k.toNat]?).bind λc=>some (.i .u8 c.toNat) else none:=by
 simp only [Xq];split
 ·cases x[k.toNat]?<;>rfl
 ·rfl
def aep (x lo hi:Option GV):Option GV:=match x,lo,hi with
 | some (.s x),some (.i _ l),some (.i _ h)=>if 0<=l/\l<=h/\h<=x.length then some (.s ((x.take h.toNat).drop l.toNat)) else none
 | _,_,_=>none
@[simp] theorem au6 {a l h:Nat}:(Nd.CV a l h).den I val=aep (val a) (val l) (val h):=rfl
def acC (z m k:Option GV):Option GV:=match z,m,k with
 | some d,some (.l xs),some g=>some ((jf g xs).getD d)
 | _,_,_=>none
def acD (m k:Option GV):Option GV:=match m,k with
 | some (.l xs),some g=>some (.b (jf g xs).isSome)
 | _,_=>none
def acE (m k v:Option GV):Option GV:=match m,k,v with
 | some (.l xs),some g,some u=>some (.l (kE g u xs))
 | _,_,_=>none
@[simp] theorem auV {z m k:Nat}:(Nd.Cj z m k).den I val=acC (val z) (val m) (val k):=rfl
@[simp] theorem auW {m k:Nat}:(Nd.Cm m k).den I val=acD (val m) (val k):=rfl
@[simp] theorem au0 {m k v:Nat}:(Nd.yU m k v).den I val=acE (val m) (val k) (val v):=rfl
@[simp] theorem auB {d g:GV} {xs:List GV}:acC (some d) (some (.l xs)) (some g)=some ((jf g xs).getD d):=rfl
@[simp] theorem auC {g:GV} {xs:List GV}:acD (some (.l xs)) (some g)=some (.b (jf g xs).isSome):=rfl
@[simp] theorem auF {g u:GV} {xs:List GV}:acE (some (.l xs)) (some g) (some u)=some (.l (kE g u xs)):=rfl
@[simp] theorem avr {x:List UInt8} {k k':IntKind} {l h:Int}:aep (some (.s x)) (some (.i k l)) (some (.i k' h))=if 0<=l/\l<=h/\h<=x.length then some (.s ((x.take h.toNat).drop l.toNat)) else none:=rfl
def ab9 (size:Nat) (x lo hi:Option GV):Option GV:=match x,lo,hi with
 | some (.l xs),some (.i _ l),some (.i _ h)=>if 0<=l/\l<=h/\h<=xs.length/\(xs.all λx=>Nat.beq x.cells.length size)=true then some (.l ((xs.take h.toNat).drop l.toNat)) else none
 | _,_,_=>none
@[simp] theorem auU {s a l h:Nat}:(Nd.Ac s a l h).den I val=ab9 s (val a) (val l) (val h):=rfl
@[simp] theorem auA {s:Nat} {xs:List GV} {k k':IntKind} {l h:Int}:ab9 s (some (.l xs)) (some (.i k l)) (some (.i k' h))=if 0<=l/\l<=h/\h<=xs.length/\(xs.all λx=>Nat.beq x.cells.length s)=true then some (.l ((xs.take h.toNat).drop l.toNat)) else none:=rfl
def abq (x i:Option GV):Option GV:=match x,i with
 | some (.l xs),some (.i _ k)=>if 0<=k/\k < xs.length then some (.i .i64 k) else none
 | _,_=>none
@[simp] theorem auR {a i:Nat}:(Nd.idx a i).den I val=abq (val a) (val i):=rfl
@[simp] theorem auy {xs:List GV} {kk:IntKind} {k:Int}:abq (some (.l xs)) (some (.i kk k))=if 0<=k/\k < xs.length then some (.i .i64 k) else none:=rfl
def at2 (size:Nat) (x i:Option GV):Option GV:=match x,i with
 | some (.l xs),some (.i _ k)=>if 0<=k then match xs[k.toNat]? with
   | some x=>if x.cells.length=size then some x else none
   | none=>none
   else none
 | _,_=>none
@[simp] theorem auH {s a i:Nat}:(Nd.at s a i).den I val=at2 s (val a) (val i):=rfl
@[simp] theorem asW {s:Nat} {xs:List GV} {kk:IntKind} {k:Int}:at2 s (some (.l xs)) (some (.i kk k))=if 0<=k then (xs[k.toNat]?).bind λx=>if x.cells.length=s then some x else none else none:=by
 simp only [at2];split
 ·cases xs[k.toNat]?<;>rfl
 ·rfl
def cell1 (off:Nat) (x:Option GV):Option GV:=match x with
 | some g=>match g.cells[off]? with
   | some c=>if c.scalar then some c else none
   | none=>none
 | none=>none
@[simp] theorem auN {o a:Nat}:(Nd.cell o a).den I val=cell1 o (val a):=rfl
@[simp] theorem atv {o:Nat} {g:GV}:cell1 o (some g)=(g.cells[o]?).bind λc=>if c.scalar=true then some c else none:=by
 simp only [cell1];cases g.cells[o]?<;>rfl
@[simp] theorem auX {l:List Nat}:(Nd.mk l).den I val=(valsOf val l).bind λgs=>if gs.all GV.scalar=true then some (.g gs) else none:=by
 simp only [Nd.den];cases valsOf val l<;>rfl
@[simp] theorem auY {l:List Nat}:(Nd.ml l).den I val=(valsOf val l).bind λgs=>some (.l gs):=by
 simp only [Nd.den];cases valsOf val l<;>rfl
def Y8 (size bs:Nat) (x y:Option GV):Option GV:=match x,y with
 | some (.l xs),some (.l ys)=>if ys.all (GV.eU size)=true/\2 * (xs.length+ys.length) * bs<=2 ^ 48/\xs.length+ys.length<=2 ^ 48 then some (.l (xs++ys)) else none
 | _,_=>none
@[simp] theorem auG {z s a b:Nat}:(Nd.app z s a b).den I val=Y8 z s (val a) (val b):=rfl
@[simp] theorem asU {z s:Nat} {xs ys:List GV}:Y8 z s (some (.l xs)) (some (.l ys))=if ys.all (GV.eU z)=true/\2 * (xs.length+ys.length) * s<=2 ^ 48/\xs.length+ys.length<=2 ^ 48 then some (.l (xs++ys)) else none:=rfl
def XP (size off:Nat) (x i:Option GV) (vs:Option (List GV)):Option GV:=match x,i,vs with
 | some (.l xs),some (.i _ k),some gs=>if 0<=k/\gs.all GV.scalar=true then match xs[k.toNat]? with
   | some x=>if x.cells.length=size then (x.put off gs).map λy=>.l (xs.set k.toNat y) else none
   | none=>none
   else none
 | _,_,_=>none
@[simp] theorem au9 {s o a i:Nat} {vs:List Nat}:(Nd.upd s o a i vs).den I val=XP s o (val a) (val i) (valsOf val vs):=rfl
@[simp] theorem avy {s o:Nat} {xs:List GV} {kk:IntKind} {k:Int} {gs:List GV}:XP s o (some (.l xs)) (some (.i kk k)) (some gs)=if 0<=k/\gs.all GV.scalar=true then (xs[k.toNat]?).bind λx=>if x.cells.length=s then (x.put o gs).map λy=>.l (xs.set k.toNat y) else none else none:=by
 simp only [XP];split
 ·cases xs[k.toNat]?<;>rfl
 ·rfl
@[simp] theorem avd {k:IntKind} {n:Int} {v:GV}:(GV.i k n).put 0 [v]=some v:=rfl
def adI (size SH:Nat) (z l c:Option GV):Option GV:=match z,l,c with
 | some x,some (.i _ n),some (.i _ m)=>if 0<=n/\n<=m/\SH * m<=2 ^ 48/\m<=2 ^ 60/\x.eU size=true then some (.l (List.replicate n.toNat x)) else none
 | _,_,_=>none
@[simp] theorem au1 {s b z l c:Nat}:(Nd.rep s b z l c).den I val=adI s b (val z) (val l) (val c):=rfl
@[simp] theorem ave {s b:Nat} {x:GV} {k k':IntKind} {n m:Int}:adI s b (some x) (some (.i k n)) (some (.i k' m))=if 0<=n/\n<=m/\b * m<=2 ^ 48/\m<=2 ^ 60/\x.eU s=true then some (.l (List.replicate n.toNat x)) else none:=by
 cases x<;>rfl
@[simp] theorem auL {a:Nat}:(Nd.bytes a).den I val=(val a).bind λg=>match g with | .s x=>some (.l (eP x)) | _=>none:=by
 simp only [Nd.den];cases val a with
 | none=>rfl
 | some g=>cases g<;>rfl
@[simp] theorem au7 {a:Nat}:(Nd.str a).den I val=(val a).bind λg=>match g with | .l xs=>if xs.length<=2 ^ 48 then (lC xs).map .s else none | _=>none:=by
 simp only [Nd.den];cases val a with
 | none=>rfl
 | some g=>cases g<;>rfl
@[simp] theorem au2 {a b:Nat}:(Nd.same a b).den I val=(val a).bind λg=>(val b).bind λh=>match g,h with | .l xs,.l ys=>if ys.length=xs.length then some (.l ys) else none | _,_=>none:=by
 simp only [Nd.den];cases val a with
 | none=>rfl
 | some g=>cases val b with
   | none=>cases g<;>rfl
   | some h=>cases g<;>cases h<;>rfl
@[simp] theorem auS {a j:Nat}:(Nd.xJ a j).den I val=(val a).bind λg=>match g with | .i _ m=>some (.b (decide (m=(j:Int)))) | _=>none:=by
 simp only [Nd.den];cases val a with
 | none=>rfl
 | some g=>cases g<;>rfl
@[simp] theorem au3 {a:Nat}:(Nd.CS a).den I val=(val a).bind λg=>match g with | .s x=>some (.s x) | _=>none:=by
 simp only [Nd.den];cases val a with
 | none=>rfl
 | some g=>cases g<;>rfl
end
section
variable {k:IntKind} {a b:Int}
@[simp] theorem asX:gB .add (some (.i k a)) (some (.i k b))=some (.i k (k.wrap (a+b))):=by simp [gB,gJ,fU]
@[simp] theorem ati:gB .sub (some (.i k a)) (some (.i k b))=some (.i k (k.wrap (a - b))):=by simp [gB,gJ,fU]
@[simp] theorem as5:gB .mul (some (.i k a)) (some (.i k b))=some (.i k (k.wrap (a * b))):=by simp [gB,gJ,fU]
@[simp] theorem as8:gB .quo (some (.i k a)) (some (.i k b))=if b=0 then none else some (.i k (k.wrap (a.tdiv b))):=by simp [gB,gJ,fU]
@[simp] theorem as9:gB .rem (some (.i k a)) (some (.i k b))=if b=0 then none else some (.i k (a.tmod b)):=by simp [gB,gJ,fU]
@[simp] theorem asZ:gB .eql (some (.i k a)) (some (.i k b))=some (.b (decide (a=b))):=by
 simp only [gB,gJ,fU,if_true];rw [show (a==b)=decide (a=b) from rfl]
@[simp] theorem as6:gB .neq (some (.i k a)) (some (.i k b))=some (.b (decide (a≠b))):=by
 simp only [gB,gJ,fU,if_true,bne];rw [show (a==b)=decide (a=b) from rfl,<- decide_not]
@[simp] theorem as4:gB .lss (some (.i k a)) (some (.i k b))=some (.b (decide (a < b))):=by simp [gB,gJ,fU]
@[simp] theorem as3:gB .leq (some (.i k a)) (some (.i k b))=some (.b (decide (a<=b))):=by simp [gB,gJ,fU]
@[simp] theorem as2:gB .gtr (some (.i k a)) (some (.i k b))=some (.b (decide (b < a))):=by simp [gB,gJ,fU]
@[simp] theorem as1:gB .geq (some (.i k a)) (some (.i k b))=some (.b (decide (b<=a))):=by simp [gB,gJ,fU]
@[simp] theorem asY:gB .and (some (.i k a)) (some (.i k b))=fU .and k a b:=by simp [gB,gJ]
@[simp] theorem as7:gB .or (some (.i k a)) (some (.i k b))=fU .or k a b:=by simp [gB,gJ]
@[simp] theorem atj:gB .xor (some (.i k a)) (some (.i k b))=fU .xor k a b:=by simp [gB,gJ]
@[simp] theorem atd {k':IntKind}:gB .shl (some (.i k a)) (some (.i k' b))=mQ .shl k a b:=rfl
@[simp] theorem ate {k':IntKind}:gB .shr (some (.i k a)) (some (.i k' b))=mQ .shr k a b:=rfl
end
section
variable {a b:List UInt8}
@[simp] theorem SE:gB .add (some (.s a)) (some (.s b))=if ((a.length+b.length:Nat):Int)<=9223372036854775807 then some (.s (a++b)) else none:=by
 simp only [gB,gJ,uw];rfl
@[simp] theorem ata:gB .eql (some (.s a)) (some (.s b))=some (.b (decide (a=b))):=by
 simp only [gB,gJ,uw];congr 2;rw [mY];simp
@[simp] theorem ath:gB .neq (some (.s a)) (some (.s b))=some (.b (decide (a≠b))):=by
 simp only [gB,gJ,uw];congr 2;rw [mY];simp
@[simp] theorem atg:gB .lss (some (.s a)) (some (.s b))=some (.b (Op.bytesLess a b)):=rfl
@[simp] theorem atb:gB .geq (some (.s a)) (some (.s b))=some (.b (!(Op.bytesLess a b))):=rfl
@[simp] theorem atf:gB .leq (some (.s a)) (some (.s b))=some (.b (Op.bytesLess a b || a==b)):=rfl
@[simp] theorem atc:gB .gtr (some (.s a)) (some (.s b))=some (.b (!(Op.bytesLess a b || a==b))):=rfl
end
@[simp] theorem atl {a b:Bool}:SG .eql (some (.b a)) (some (.b b))=some (.b (a==b)):=rfl
@[simp] theorem atm {a b:Bool}:SG .neq (some (.b a)) (some (.b b))=some (.b (!(a==b))):=rfl
@[simp] theorem atn {ks:List Nat} {a b:List GV}:Jt .eql ks (some (.g a)) (some (.g b))=(lT ks a b).bind λr=>some (.b r):=by
 simp only [Jt,FW];cases lT ks a b<;>rfl
@[simp] theorem ato {ks:List Nat} {a b:List GV}:Jt .neq ks (some (.g a)) (some (.g b))=(lT ks a b).bind λr=>some (.b (!r)):=by
 simp only [Jt,FW];cases lT ks a b<;>rfl
@[simp] theorem avx {a:Bool}:XL .not (some (.b a))=some (.b (!a)):=rfl
@[simp] theorem avw {k:IntKind} {a:Int}:XL .neg (some (.i k a))=some (.i k (k.wrap (0 - a))):=rfl
@[simp] theorem SV {cs:List GV}:(GV.g cs).cells=cs:=rfl
@[simp] theorem atx {k:IntKind} {n:Int}:(GV.i k n).cells=[.i k n]:=rfl
@[simp] theorem atw {x:Bool}:(GV.b x).cells=[.b x]:=rfl
@[simp] theorem atz {x:List UInt8}:(GV.s x).cells=[.s x]:=rfl
@[simp] theorem aty {x:List GV}:(GV.l x).cells=[.l x]:=rfl
@[simp] theorem avj {cs:List GV}:(GV.g cs).scalar=false:=rfl
@[simp] theorem avk {k:IntKind} {n:Int}:(GV.i k n).scalar=true:=rfl
@[simp] theorem avi {x:Bool}:(GV.b x).scalar=true:=rfl
@[simp] theorem avm {x:List UInt8}:(GV.s x).scalar=true:=rfl
@[simp] theorem avl {x:List GV}:(GV.l x).scalar=true:=rfl
theorem aG {Ds:List aC} {k:Nat} {si so:List ng} {t:Tree} {gs out:List GV} (hk:Ds[k]? = some (.fn si so t)) (hi:nV si gs=true) (h:t.go (vO Ds).lim gs.length (SA gs)=some out) (ho:nV so out=true):(vO Ds).lim k gs=some out:=by
 have h:t.den (vO Ds).lim gs=some out:=(Tree.JY t gs).symm.trans h;exact Ej hk (by simp only [aC.den,aj hi,h,aj ho])
theorem aB {Ds:List aC} {k n:Nat} {t:Tree} {gs out:List GV} (hk:Ds[k]? = some (.tree n t)) (hn:gs.length=n) (h:t.go (vO Ds).lim gs.length (SA gs)=some out):(vO Ds).lim k gs=some out:=by
 have h:t.den (vO Ds).lim gs=some out:=(Tree.JY t gs).symm.trans h;exact Ej hk (by simp only [aC.den,aj hn,h])
theorem KT {Ds:List aC} {k:Nat} {f:List GV->Option (List GV)} {gs out:List GV} (hk:Ds[k]? = some (.uf f)) (h:f gs=some out):(vO Ds).lim k gs=some out:=
 Ej hk h
theorem akA {gs:List GV} (h:hasArgs [] gs):gs=[]:=by simpa only [hasArgs] using h
theorem akz {l:List bJ} {r:List (Bool×List bJ)} {gs:List GV} (h:hasArgs ((true,l)::r) gs):∃cs gs',gs=.g cs::gs'/\bJ.iI l cs/\hasArgs r gs':=by
 simp only [hasArgs] at h;obtain ⟨g,gs',rfl,h1,h2,h3⟩:=h;cases g<;>simp [GV.scalar] at h2
 exact ⟨_,_,rfl,h1,h3⟩
theorem iL {t:bJ} {l:List bJ} {gs:List GV} (h:bJ.iI (t::l) gs):∃g r,gs=g::r/\t.has g/\bJ.iI l r:=by simpa only [bJ.iI] using h
theorem J4 {gs:List GV} (h:bJ.iI [] gs):gs=[]:=by simpa only [bJ.iI] using h
theorem Ut {t:bJ} {r:List (Bool×List bJ)} {gs:List GV} (h:hasArgs ((false,[t])::r) gs):∃g gs',gs=g::gs'/\t.has g/\hasArgs r gs':=by
 simp only [hasArgs] at h;obtain ⟨g,gs',rfl,h1,h2,h3⟩:=h;refine ⟨_,_,rfl, ?_,h3⟩;obtain ⟨g0,r0,e,h4,h5⟩:=iL h1;cases g<;>simp [GV.scalar] at h2<;>simp only [GV.cells,Dh] at e<;>rw [e.1]<;>exact h4
theorem oW {g:GV} (h:(bJ.int .u64).has g):∃n,g=.i .u64 n/\0<=n/\n < 18446744073709551616:=by
 simp only [bJ.has] at h;obtain ⟨n,rfl,h1,h2⟩:=h;exact ⟨n,rfl,by simpa [IntKind.min,IntKind.signed] using h1,by simp [IntKind.max,IntKind.signed,IntKind.bits] at h2;omega⟩
theorem BU {g:GV} (h:bJ.str.has g):∃s,g=.s s/\s.length<=reachBytes:=by simpa only [bJ.has] using h
theorem OL {b:Bool} {e:List bJ} {g:GV} (h:(bJ.list b e).has g):∃xs,g=.l xs/\xs.length<=reachBytes/\∀x∈xs,bJ.iI e x.cells/\x.scalar = !b:=by simpa only [bJ.has] using h
theorem Kw {α:Type} {f:α->GV} {p:α->Prop}:∀ {xs:List GV},(∀x∈xs,∃r,p r/\x=f r)->∃rs:List α,(∀r∈rs,p r)/\xs=rs.map f
 | [],_=>⟨[],by simp,rfl⟩
 | x::xs,h=>by
   obtain ⟨r,h1,h2⟩:=h x (by simp);obtain ⟨rs,h3,h4⟩:=Kw (xs:=xs) λy hy=>h y (by simp [hy]);refine ⟨r::rs,λq hq=>?_,by rw [h2,h4];rfl⟩;rcases dO.1 hq with rfl | hq
   ·exact h1
   ·exact h3 q hq
theorem wrap64 {n:Int} (h0 : -9223372036854775808<=n) (h1:n<=9223372036854775807):IntKind.i64.wrap n=n:=by
 have:IntKind.i64.wrap n=if n % 18446744073709551616>=9223372036854775808 then n % 18446744073709551616 - 18446744073709551616 else n % 18446744073709551616:=by
  simp [IntKind.wrap,IntKind.signed,IntKind.bits]
 rw [this];split<;>omega
theorem dF {n:Int} (h0:0<=n) (h1:n < 18446744073709551616):IntKind.u64.wrap n=n:=by
 have:IntKind.u64.wrap n=n % 18446744073709551616:=by
  simp [IntKind.wrap,IntKind.signed,IntKind.bits]
 rw [this];omega
end Go.aJ
