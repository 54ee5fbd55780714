/- Plain laws over trees: values of one's own as ground values; how a tree is gone through. -/
import Derived.Test.YtilkjidelblkfaaGreatDoorAbsJ
namespace Go.aJ
set_option linter.unusedSimpArgs false
theorem EU {Ds:List aF} {k:Nat} {d:aF} {gs out:List GV} (hk:Ds[k]? = some d) (h:d.den (wS Ds).lim gs=some out):(wS Ds).lim k gs=some out:=gW.amK hk h
def upd (val:Nat->Option GV) (k:Nat) (g:GV):Nat->Option GV:=λn=>if n=k then some g else val n
def Uj (gs:List GV):Nat->Option GV:=λn=>gs[n]?
@[simp] theorem atI {gs:List GV} {n:Nat}:Uj gs n=gs[n]?:=rfl
@[simp] theorem upd_same {val:Nat->Option GV} {k:Nat} {g:GV}:upd val k g k=some g:=aj rfl
@[simp] theorem upd_ne {val:Nat->Option GV} {k n:Nat} {g:GV} (h:n≠k):upd val k g n=val n:=ah h
def Tree.go (I:gK):Tree->Nat->(Nat->Option GV)->Option (List GV)
 | .step nd t,k,val=>match nd.den I val with
   | some g=>t.go I (k+1) (upd val k g)
   | none=>none
 | .ite n t e,k,val=>match val n with
   | some (.b true)=>t.go I k val
   | some (.b false)=>e.go I k val
   | _=>none
 | .ret l,_,val=>valsOf val l
 | .tail f l,_,val=>match valsOf val l with
   | some gs=>I f gs
   | none=>none
 | .dead,_,_=>none
theorem Tree.La {I:gK}:∀ (t:Tree) (env:List GV),t.go I env.length (λn=>env[n]?)=t.den I env
 | .step nd t,env=>by
   simp only [Tree.go,Tree.den];cases nd.den I λn=>env[n]? with
   | none=>rfl
   | some g=>
     simp only;rw [<- Tree.La t (env++[g])];congr 1
     ·simp
     ·funext n
      unfold upd;split
      ·next h=>subst h;simp
      ·next h=>
       show env[n]? = (env++[g])[n]?
       rcases wP n env.length with hl | hl
       ·rw [lV hl]
       ·rw [tY hl,tZ (l:=env) hl,tZ]
        simp;omega
 | .ite n t e,env=>by simp only [Tree.go,Tree.den,Tree.La t env,Tree.La e env];rfl
 | .ret l,env=>rfl
 | .tail f l,env=>rfl
 | .dead,env=>rfl
def aap (o:Option GV) (I:gK) (t:Tree) (k:Nat) (val:Nat->Option GV):Option (List GV):=match o with
 | some g=>t.go I (k+1) (upd val k g)
 | none=>none
def aaZ (o:Option GV) (I:gK) (t e:Tree) (k:Nat) (val:Nat->Option GV):Option (List GV):=match o with
 | some (.b true)=>t.go I k val
 | some (.b false)=>e.go I k val
 | _=>none
section
variable {I:gK} {k:Nat} {val:Nat->Option GV}
@[simp] theorem ahf {g:GV} {t:Tree}:aap (some g) I t k val=t.go I (k+1) (upd val k g):=rfl
@[simp] theorem auu {c:Bool} {t e:Tree}:aaZ (some (.b c)) I t e k val=if c=true then t.go I k val else e.go I k val:=by cases c<;>rfl
@[simp] theorem asv {nd:Nd} {t:Tree}:(Tree.step nd t).go I k val=aap (nd.den I val) I t k val:=rfl
@[simp] theorem awf {n:Nat} {t e:Tree}:(Tree.ite n t e).go I k val=aaZ (val n) I t e k val:=rfl
@[simp] theorem awg {l:List Nat}:(Tree.ret l).go I k val=valsOf val l:=rfl
@[simp] theorem awe:Tree.dead.go I k val=none:=rfl
@[simp] theorem awh {f:Nat} {l:List Nat}:(Tree.tail f l).go I k val=(valsOf val l).bind (I f):=by
 simp only [Tree.go];cases valsOf val l<;>rfl
end
@[simp] theorem anZ {I:gK} {f j:Nat} {l:List Nat} {val:Nat->Option GV}:(Nd.call f l j).den I val=(valsOf val l).bind λgs=>(I f gs).bind λr=>r[j]?:=by
 simp only [Nd.den];cases valsOf val l with
 | none=>rfl
 | some gs=>simp only [Aa];cases I f gs<;>rfl
@[simp] theorem awl {val:Nat->Option GV}:valsOf val []=some []:=rfl
@[simp] theorem af6 {val:Nat->Option GV} {n:Nat} {l:List Nat}:valsOf val (n::l)=(val n).bind λg=>(valsOf val l).bind λr=>some (g::r):=by
 simp only [valsOf];cases val n<;>cases valsOf val l<;>rfl
def gX (op:BinOp) (x y:Option GV):Option GV:=match x,y with
 | some a,some b=>gG op a b
 | _,_=>none
def Um (op:BinOp) (x y:Option GV):Option GV:=match x,y with
 | some a,some b=>OC op a b
 | _,_=>none
def Kq (op:BinOp) (ks:List Nat) (x y:Option GV):Option GV:=match x,y with
 | some a,some b=>Hz op ks a b
 | _,_=>none
def YM (op:UnOp) (x:Option GV):Option GV:=match x with
 | some a=>SL op a
 | none=>none
section
variable {I:gK} {val:Nat->Option GV}
@[simp] theorem avu {k:IntKind} {n:Int}:(Nd.ci k n).den I val=some (.i k n):=rfl
@[simp] theorem avs {x:Bool}:(Nd.cb x).den I val=some (.b x):=rfl
@[simp] theorem avw {x:List UInt8}:(Nd.cs x).den I val=some (.s x):=rfl
@[simp] theorem avo {op:BinOp} {a b:Nat}:(Nd.bin op a b).den I val=gX op (val a) (val b):=rfl
@[simp] theorem avp {op:BinOp} {a b:Nat}:(Nd.Am op a b).den I val=Um op (val a) (val b):=rfl
@[simp] theorem avq {op:BinOp} {ks:List Nat} {a b:Nat}:(Nd.Ap op ks a b).den I val=Kq op ks (val a) (val b):=rfl
@[simp] theorem avP {op:UnOp} {a:Nat}:(Nd.un op a).den I val=YM op (val a):=rfl
def LW (big:Bool) (x y:Option GV):Option GV:=match x,y with
 | some (.i k x),some (.i k' y)=>if k=k' then some (.i k (if big then (if x < y then y else x) else (if y < x then y else x))) else none
 | _,_=>none
@[simp] theorem avG {g:Bool} {a b:Nat}:(Nd.mm g a b).den I val=LW g (val a) (val b):=rfl
@[simp] theorem avk {k:IntKind} {x y:Int}:LW true (some (.i k x)) (some (.i k y))=some (.i k (if x < y then y else x)):=by simp [LW]
@[simp] theorem avj {k:IntKind} {x y:Int}:LW false (some (.i k x)) (some (.i k y))=some (.i k (if y < x then y else x)):=by simp [LW]
def aa1 (k:IntKind) (x:Option GV):Option GV:=match x with
 | some (.i _ n)=>some (.i k (k.wrap n))
 | _=>none
@[simp] theorem avv {k:IntKind} {a:Nat}:(Nd.conv k a).den I val=aa1 k (val a):=rfl
@[simp] theorem auv {k k':IntKind} {n:Int}:aa1 k (some (.i k' n))=some (.i k (k.wrap n)):=rfl
def len1 (x:Option GV):Option GV:=match x with
 | some (.l xs)=>some (.i .i64 xs.length)
 | _=>none
@[simp] theorem avz {a:Nat}:(Nd.len a).den I val=len1 (val a):=rfl
@[simp] theorem avg {xs:List GV}:len1 (some (.l xs))=some (.i .i64 xs.length):=rfl
def afn (x:Option GV):Option GV:=match x with
 | some (.s x)=>some (.i .i64 x.length)
 | _=>none
@[simp] theorem avM {a:Nat}:(Nd.slen a).den I val=afn (val a):=rfl
@[simp] theorem av6 {x:List UInt8}:afn (some (.s x))=some (.i .i64 x.length):=rfl
def Yr (x i:Option GV):Option GV:=match x,i with
 | some (.s x),some (.i _ k)=>if 0<=k then match x[k.toNat]? with
   | some c=>some (.i .u8 c.toNat)
   | none=>none
   else none
 | _,_=>none
@[simp] theorem avL {a i:Nat}:(Nd.BJ a i).den I val=Yr (val a) (val i):=rfl
@[simp] theorem av5 {x:List UInt8} {kk:IntKind} {k:Int}:Yr (some (.s x)) (some (.i kk k))=if 0<=k then (x[k.toNat]?).bind λc=>some (.i .u8 c.toNat) else none:=by
 simp only [Yr];split
 ·cases x[k.toNat]?<;>rfl
 ·rfl
def afw (x lo hi:Option GV):Option GV:=match x,lo,hi with
 | some (.s x),some (.i _ l),some (.i _ h)=>if 0<=l/\l<=h/\h<=x.length then some (.s ((x.take h.toNat).drop l.toNat)) else none
 | _,_,_=>none
@[simp] theorem avN {a l h:Nat}:(Nd.BQ a l h).den I val=afw (val a) (val l) (val h):=rfl
def adD (z m k:Option GV):Option GV:=match z,m,k with
 | some d,some (.l xs),some g=>some ((ig g xs).getD d)
 | _,_,_=>none
def adE (m k:Option GV):Option GV:=match m,k with
 | some (.l xs),some g=>some (.b (ig g xs).isSome)
 | _,_=>none
def adI (m k v:Option GV):Option GV:=match m,k,v with
 | some (.l xs),some g,some u=>some (.l (jZ g u xs))
 | _,_,_=>none
@[simp] theorem avC {z m k:Nat}:(Nd.Bd z m k).den I val=adD (val z) (val m) (val k):=rfl
@[simp] theorem avD {m k:Nat}:(Nd.Bf m k).den I val=adE (val m) (val k):=rfl
@[simp] theorem avH {m k v:Nat}:(Nd.yj m k v).den I val=adI (val m) (val k) (val v):=rfl
@[simp] theorem avh {d g:GV} {xs:List GV}:adD (some d) (some (.l xs)) (some g)=some ((ig g xs).getD d):=rfl
@[simp] theorem avi {g:GV} {xs:List GV}:adE (some (.l xs)) (some g)=some (.b (ig g xs).isSome):=rfl
@[simp] theorem avl {g u:GV} {xs:List GV}:adI (some (.l xs)) (some g) (some u)=some (.l (jZ g u xs)):=rfl
@[simp] theorem awd {x:List UInt8} {k k':IntKind} {l h:Int}:afw (some (.s x)) (some (.i k l)) (some (.i k' h))=if 0<=l/\l<=h/\h<=x.length then some (.s ((x.take h.toNat).drop l.toNat)) else none:=rfl
def LU (size:Nat) (x lo hi:Option GV):Option GV:=match x,lo,hi with
 | some (.l xs),some (.i _ l),some (.i _ h)=>if 0<=l/\l<=h/\h<=xs.length/\(xs.all λx=>Nat.beq x.cells.length size)=true then some (.l ((xs.take h.toNat).drop l.toNat)) else none
 | _,_,_=>none
@[simp] theorem avA {s a l h:Nat}:(Nd.zl s a l h).den I val=LU s (val a) (val l) (val h):=rfl
@[simp] theorem rV {s:Nat} {xs:List GV} {k k':IntKind} {l h:Int}:LU s (some (.l xs)) (some (.i k l)) (some (.i k' h))=if 0<=l/\l<=h/\h<=xs.length/\(xs.all λx=>Nat.beq x.cells.length s)=true then some (.l ((xs.take h.toNat).drop l.toNat)) else none:=rfl
def VX (x i:Option GV):Option GV:=match x,i with
 | some (.l xs),some (.i _ k)=>if 0<=k/\k < xs.length then some (.i .i64 k) else none
 | _,_=>none
@[simp] theorem avx {a i:Nat}:(Nd.idx a i).den I val=VX (val a) (val i):=rfl
@[simp] theorem al9 {xs:List GV} {kk:IntKind} {k:Int}:VX (some (.l xs)) (some (.i kk k))=if 0<=k/\k < xs.length then some (.i .i64 k) else none:=rfl
def at2 (size:Nat) (x i:Option GV):Option GV:=match x,i with
 | some (.l xs),some (.i _ k)=>if 0<=k then match xs[k.toNat]? with
   | some x=>if x.cells.length=size then some x else none
   | none=>none
   else none
 | _,_=>none
@[simp] theorem avn {s a i:Nat}:(Nd.at s a i).den I val=at2 s (val a) (val i):=rfl
@[simp] theorem Oy {s:Nat} {xs:List GV} {kk:IntKind} {k:Int}:at2 s (some (.l xs)) (some (.i kk k))=if 0<=k then (xs[k.toNat]?).bind λx=>if x.cells.length=s then some x else none else none:=by
 simp only [at2];split
 ·cases xs[k.toNat]?<;>rfl
 ·rfl
def cell1 (off:Nat) (x:Option GV):Option GV:=match x with
 | some g=>match g.cells[off]? with
   | some c=>if c.scalar then some c else none
   | none=>none
 | none=>none
@[simp] theorem avt {o a:Nat}:(Nd.cell o a).den I val=cell1 o (val a):=rfl
@[simp] theorem auo {o:Nat} {g:GV}:cell1 o (some g)=(g.cells[o]?).bind λc=>if c.scalar=true then some c else none:=by
 simp only [cell1];cases g.cells[o]?<;>rfl
@[simp] theorem avE {l:List Nat}:(Nd.mk l).den I val=(valsOf val l).bind λgs=>if gs.all GV.scalar=true then some (.g gs) else none:=by
 simp only [Nd.den];cases valsOf val l<;>rfl
@[simp] theorem avF {l:List Nat}:(Nd.ml l).den I val=(valsOf val l).bind λgs=>some (.l gs):=by
 simp only [Nd.den];cases valsOf val l<;>rfl
def J6 (size bs:Nat) (x y:Option GV):Option GV:=match x,y with
 | some (.l xs),some (.l ys)=>if ys.all (GV.fA size)=true/\2 * (xs.length+ys.length) * bs<=2 ^ 48/\xs.length+ys.length<=2 ^ 48 then some (.l (xs++ys)) else none
 | _,_=>none
@[simp] theorem avm {z s a b:Nat}:(Nd.app z s a b).den I val=J6 z s (val a) (val b):=rfl
@[simp] theorem Ht {z s:Nat} {xs ys:List GV}:J6 z s (some (.l xs)) (some (.l ys))=if ys.all (GV.fA z)=true/\2 * (xs.length+ys.length) * s<=2 ^ 48/\xs.length+ys.length<=2 ^ 48 then some (.l (xs++ys)) else none:=rfl
def YP (size off:Nat) (x i:Option GV) (vs:Option (List GV)):Option GV:=match x,i,vs with
 | some (.l xs),some (.i _ k),some gs=>if 0<=k/\gs.all GV.scalar=true then match xs[k.toNat]? with
   | some x=>if x.cells.length=size then (x.put off gs).map λy=>.l (xs.set k.toNat y) else none
   | none=>none
   else none
 | _,_,_=>none
@[simp] theorem avQ {s o a i:Nat} {vs:List Nat}:(Nd.upd s o a i vs).den I val=YP s o (val a) (val i) (valsOf val vs):=rfl
@[simp] theorem awk {s o:Nat} {xs:List GV} {kk:IntKind} {k:Int} {gs:List GV}:YP s o (some (.l xs)) (some (.i kk k)) (some gs)=if 0<=k/\gs.all GV.scalar=true then (xs[k.toNat]?).bind λx=>if x.cells.length=s then (x.put o gs).map λy=>.l (xs.set k.toNat y) else none else none:=by
 simp only [YP];split
 ·cases xs[k.toNat]?<;>rfl
 ·rfl
@[simp] theorem avV {k:IntKind} {n:Int} {v:GV}:(GV.i k n).put 0 [v]=some v:=rfl
def aeY (size Un:Nat) (z l c:Option GV):Option GV:=match z,l,c with
 | some x,some (.i _ n),some (.i _ m)=>if 0<=n/\n<=m/\Un * m<=2 ^ 48/\m<=2 ^ 60/\x.fA size=true then some (.l (List.replicate n.toNat x)) else none
 | _,_,_=>none
@[simp] theorem avI {s b z l c:Nat}:(Nd.rep s b z l c).den I val=aeY s b (val z) (val l) (val c):=rfl
@[simp] theorem avW {s b:Nat} {x:GV} {k k':IntKind} {n m:Int}:aeY s b (some x) (some (.i k n)) (some (.i k' m))=if 0<=n/\n<=m/\b * m<=2 ^ 48/\m<=2 ^ 60/\x.fA s=true then some (.l (List.replicate n.toNat x)) else none:=by
 cases x<;>rfl
@[simp] theorem avr {a:Nat}:(Nd.bytes a).den I val=(val a).bind λg=>match g with | .s x=>some (.l (eU x)) | _=>none:=by
 simp only [Nd.den];cases val a with
 | none=>rfl
 | some g=>cases g<;>rfl
@[simp] theorem avO {a:Nat}:(Nd.str a).den I val=(val a).bind λg=>match g with | .l xs=>if xs.length<=2 ^ 48 then (nT xs).map .s else none | _=>none:=by
 simp only [Nd.den];cases val a with
 | none=>rfl
 | some g=>cases g<;>rfl
@[simp] theorem avJ {a b:Nat}:(Nd.same a b).den I val=(val a).bind λg=>(val b).bind λh=>match g,h with | .l xs,.l ys=>if ys.length=xs.length then some (.l ys) else none | _,_=>none:=by
 simp only [Nd.den];cases val a with
 | none=>rfl
 | some g=>cases val b with
   | none=>cases g<;>rfl
   | some h=>cases g<;>cases h<;>rfl
@[simp] theorem avy {a j:Nat}:(Nd.wY a j).den I val=(val a).bind λg=>match g with | .i _ m=>some (.b (decide (m=(j:Int)))) | _=>none:=by
 simp only [Nd.den];cases val a with
 | none=>rfl
 | some g=>cases g<;>rfl
@[simp] theorem avK {a:Nat}:(Nd.BI a).den I val=(val a).bind λg=>match g with | .s x=>some (.s x) | _=>none:=by
 simp only [Nd.den];cases val a with
 | none=>rfl
 | some g=>cases g<;>rfl
end
section
variable {k:IntKind} {a b:Int}
@[simp] theorem atJ:gX .add (some (.i k a)) (some (.i k b))=some (.i k (k.wrap (a+b))):=by simp [gX,gG,fO]
@[simp] theorem aud:gX .sub (some (.i k a)) (some (.i k b))=some (.i k (k.wrap (a - b))):=by simp [gX,gG,fO]
@[simp] theorem atS:gX .mul (some (.i k a)) (some (.i k b))=some (.i k (k.wrap (a * b))):=by simp [gX,gG,fO]
@[simp] theorem atV:gX .quo (some (.i k a)) (some (.i k b))=if b=0 then none else some (.i k (k.wrap (a.tdiv b))):=by simp [gX,gG,fO]
@[simp] theorem atW:gX .rem (some (.i k a)) (some (.i k b))=if b=0 then none else some (.i k (a.tmod b)):=by simp [gX,gG,fO]
@[simp] theorem atM:gX .eql (some (.i k a)) (some (.i k b))=some (.b (decide (a=b))):=by
 simp only [gX,gG,fO,if_true];rw [show (a==b)=decide (a=b) from rfl]
@[simp] theorem atT:gX .neq (some (.i k a)) (some (.i k b))=some (.b (decide (a≠b))):=by
 simp only [gX,gG,fO,if_true,bne];rw [show (a==b)=decide (a=b) from rfl,<- decide_not]
@[simp] theorem atQ:gX .lss (some (.i k a)) (some (.i k b))=some (.b (decide (a < b))):=by simp [gX,gG,fO]
@[simp] theorem atP:gX .leq (some (.i k a)) (some (.i k b))=some (.b (decide (a<=b))):=by simp [gX,gG,fO]
@[simp] theorem atO:gX .gtr (some (.i k a)) (some (.i k b))=some (.b (decide (b < a))):=by simp [gX,gG,fO]
@[simp] theorem atN:gX .geq (some (.i k a)) (some (.i k b))=some (.b (decide (b<=a))):=by simp [gX,gG,fO]
@[simp] theorem atK:gX .and (some (.i k a)) (some (.i k b))=fO .and k a b:=by simp [gX,gG]
@[simp] theorem atU:gX .or (some (.i k a)) (some (.i k b))=fO .or k a b:=by simp [gX,gG]
@[simp] theorem aue:gX .xor (some (.i k a)) (some (.i k b))=fO .xor k a b:=by simp [gX,gG]
@[simp] theorem at6 {k':IntKind}:gX .shl (some (.i k a)) (some (.i k' b))=nJ .shl k a b:=rfl
@[simp] theorem at7 {k':IntKind}:gX .shr (some (.i k a)) (some (.i k' b))=nJ .shr k a b:=rfl
end
section
variable {a b:List UInt8}
@[simp] theorem atX:gX .add (some (.s a)) (some (.s b))=if ((a.length+b.length:Nat):Int)<=9223372036854775807 then some (.s (a++b)) else none:=by
 simp only [gX,gG,vg];rfl
@[simp] theorem atY:gX .eql (some (.s a)) (some (.s b))=some (.b (decide (a=b))):=by
 simp only [gX,gG,vg];congr 2;rw [vF];simp
@[simp] theorem auc:gX .neq (some (.s a)) (some (.s b))=some (.b (decide (a≠b))):=by
 simp only [gX,gG,vg];congr 2;rw [vF];simp
@[simp] theorem aub:gX .lss (some (.s a)) (some (.s b))=some (.b (Op.bytesLess a b)):=rfl
@[simp] theorem atZ:gX .geq (some (.s a)) (some (.s b))=some (.b (!(Op.bytesLess a b))):=rfl
@[simp] theorem aua:gX .leq (some (.s a)) (some (.s b))=some (.b (Op.bytesLess a b || a==b)):=rfl
@[simp] theorem at1:gX .gtr (some (.s a)) (some (.s b))=some (.b (!(Op.bytesLess a b || a==b))):=rfl
end
@[simp] theorem auf {a b:Bool}:Um .eql (some (.b a)) (some (.b b))=some (.b (a==b)):=rfl
@[simp] theorem aug {a b:Bool}:Um .neq (some (.b a)) (some (.b b))=some (.b (!(a==b))):=rfl
@[simp] theorem auh {ks:List Nat} {a b:List GV}:Kq .eql ks (some (.g a)) (some (.g b))=(kX ks a b).bind λr=>some (.b r):=by
 simp only [Kq,Hz];cases kX ks a b<;>rfl
@[simp] theorem aui {ks:List Nat} {a b:List GV}:Kq .neq ks (some (.g a)) (some (.g b))=(kX ks a b).bind λr=>some (.b (!r)):=by
 simp only [Kq,Hz];cases kX ks a b<;>rfl
@[simp] theorem awj {a:Bool}:YM .not (some (.b a))=some (.b (!a)):=rfl
@[simp] theorem awi {k:IntKind} {a:Int}:YM .neg (some (.i k a))=some (.i k (k.wrap (0 - a))):=rfl
@[simp] theorem ahz {cs:List GV}:(GV.g cs).cells=cs:=rfl
@[simp] theorem auq {k:IntKind} {n:Int}:(GV.i k n).cells=[.i k n]:=rfl
@[simp] theorem aup {x:Bool}:(GV.b x).cells=[.b x]:=rfl
@[simp] theorem aus {x:List UInt8}:(GV.s x).cells=[.s x]:=rfl
@[simp] theorem aur {x:List GV}:(GV.l x).cells=[.l x]:=rfl
@[simp] theorem av1 {cs:List GV}:(GV.g cs).scalar=false:=rfl
@[simp] theorem av2 {k:IntKind} {n:Int}:(GV.i k n).scalar=true:=rfl
@[simp] theorem avZ {x:Bool}:(GV.b x).scalar=true:=rfl
@[simp] theorem av4 {x:List UInt8}:(GV.s x).scalar=true:=rfl
@[simp] theorem av3 {x:List GV}:(GV.l x).scalar=true:=rfl
theorem aQ {Ds:List aF} {k:Nat} {si so:List mX} {t:Tree} {gs out:List GV} (hk:Ds[k]? = some (.fn si so t)) (hi:oI si gs=true) (h:t.go (wS Ds).lim gs.length (Uj gs)=some out) (ho:oI so out=true):(wS Ds).lim k gs=some out:=by
 have h:t.den (wS Ds).lim gs=some out:=(Tree.La t gs).symm.trans h;exact EU hk (by simp only [aF.den,aj hi,h,aj ho])
theorem aB {Ds:List aF} {k n:Nat} {t:Tree} {gs out:List GV} (hk:Ds[k]? = some (.tree n t)) (hn:gs.length=n) (h:t.go (wS Ds).lim gs.length (Uj gs)=some out):(wS Ds).lim k gs=some out:=by
 have h:t.den (wS Ds).lim gs=some out:=(Tree.La t gs).symm.trans h;exact EU hk (by simp only [aF.den,aj hn,h])
theorem FX {Ds:List aF} {k:Nat} {f:List GV->Option (List GV)} {gs out:List GV} (hk:Ds[k]? = some (.jc f)) (h:f gs=some out):(wS Ds).lim k gs=some out:=
 EU hk h
theorem alf {gs:List GV} (h:hasArgs [] gs):gs=[]:=by simpa only [hasArgs] using h
theorem acf {l:List bK} {r:List (Bool×List bK)} {gs:List GV} (h:hasArgs ((true,l)::r) gs):∃cs gs',gs=.g cs::gs'/\bK.iH l cs/\hasArgs r gs':=by
 simp only [hasArgs] at h;obtain ⟨g,gs',rfl,h1,h2,h3⟩:=h;cases g<;>simp [GV.scalar] at h2
 exact ⟨_,_,rfl,h1,h3⟩
theorem qH {t:bK} {l:List bK} {gs:List GV} (h:bK.iH (t::l) gs):∃g r,gs=g::r/\t.has g/\bK.iH l r:=by simpa only [bK.iH] using h
theorem Lj {gs:List GV} (h:bK.iH [] gs):gs=[]:=by simpa only [bK.iH] using h
theorem alg {t:bK} {r:List (Bool×List bK)} {gs:List GV} (h:hasArgs ((false,[t])::r) gs):∃g gs',gs=g::gs'/\t.has g/\hasArgs r gs':=by
 simp only [hasArgs] at h;obtain ⟨g,gs',rfl,h1,h2,h3⟩:=h;refine ⟨_,_,rfl, ?_,h3⟩;obtain ⟨g0,r0,e,h4,h5⟩:=qH h1;cases g<;>simp [GV.scalar] at h2<;>simp only [GV.cells,yE] at e<;>rw [e.1]<;>exact h4
theorem IJ {g:GV} (h:(bK.int .u64).has g):∃n,g=.i .u64 n/\0<=n/\n < 18446744073709551616:=by
 simp only [bK.has] at h;obtain ⟨n,rfl,h1,h2⟩:=h;exact ⟨n,rfl,by simpa [IntKind.min,IntKind.signed] using h1,by simp [IntKind.max,IntKind.signed,IntKind.bits] at h2;omega⟩
theorem Vt {g:GV} (h:bK.str.has g):∃s,g=.s s/\s.length<=reachBytes:=by simpa only [bK.has] using h
theorem Vs {b:Bool} {e:List bK} {g:GV} (h:(bK.list b e).has g):∃xs,g=.l xs/\xs.length<=reachBytes/\∀x∈xs,bK.iH e x.cells/\x.scalar = !b:=by simpa only [bK.has] using h
theorem Qz {α:Type} {f:α->GV} {p:α->Prop}:∀ {xs:List GV},(∀x∈xs,∃r,p r/\x=f r)->∃rs:List α,(∀r∈rs,p r)/\xs=rs.map f
 | [],_=>⟨[],by simp,rfl⟩
 | x::xs,h=>by
   obtain ⟨r,h1,h2⟩:=h x (by simp);obtain ⟨rs,h3,h4⟩:=Qz (xs:=xs) λy hy=>h y (by simp [hy]);refine ⟨r::rs,λq hq=>?_,by rw [h2,h4];rfl⟩;rcases bC.1 hq with rfl | hq
   ·exact h1
   ·exact h3 q hq
theorem wrap64 {n:Int} (h0 : -9223372036854775808<=n) (h1:n<=9223372036854775807):IntKind.i64.wrap n=n:=by
 have:IntKind.i64.wrap n=if n % 18446744073709551616>=9223372036854775808 then n % 18446744073709551616 - 18446744073709551616 else n % 18446744073709551616:=by
  simp [IntKind.wrap,IntKind.signed,IntKind.bits]
 rw [this];split<;>omega
theorem jJ {n:Int} (h0:0<=n) (h1:n < 18446744073709551616):IntKind.u64.wrap n=n:=by
 have:IntKind.u64.wrap n=n % 18446744073709551616:=by
  simp [IntKind.wrap,IntKind.signed,IntKind.bits]
 rw [this];omega
end Go.aJ
