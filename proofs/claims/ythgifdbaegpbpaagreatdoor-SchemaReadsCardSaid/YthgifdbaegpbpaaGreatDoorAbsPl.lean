/- Plain laws over trees: values of one's own as ground values; how a tree is gone through. -/
import Derived.Test.YthgifdbaegpbpaaGreatDoorAbsJ
namespace Go.aK
set_option linter.unusedSimpArgs false
theorem Ef {Ds:List aF} {k:Nat} {d:aF} {gs out:List GV} (hk:Ds[k]? = some d) (h:d.den (vK Ds).lim gs=some out):(vK Ds).lim k gs=some out:=gq.ajg hk h
def upd (val:Nat->Option GV) (k:Nat) (g:GV):Nat->Option GV:=λn=>if n=k then some g else val n
def Qv (gs:List GV):Nat->Option GV:=λn=>gs[n]?
@[simp] theorem arK {gs:List GV} {n:Nat}:Qv gs n=gs[n]?:=rfl
@[simp] theorem upd_same {val:Nat->Option GV} {k:Nat} {g:GV}:upd val k g k=some g:=ak rfl
@[simp] theorem upd_ne {val:Nat->Option GV} {k n:Nat} {g:GV} (h:n≠k):upd val k g n=val n:=ah h
def Tree.go (I:fP):Tree->Nat->(Nat->Option GV)->Option (List GV)
 | .step nd t,k,val=>match nd.den I val with
  | some g=>t.go I (k+1) (upd val k g)
  | none=>none
 | .ite n t e,k,val=>match val n with
  | some (.b true)=>t.go I k val
  | some (.b false)=>e.go I k val
  | _=>none
 | .ret l,_,val=>valsOf val l
 | .tail f l,_,val=>match valsOf val l with
  | some gs=>I f gs
  | none=>none
 | .dead,_,_=>none
theorem Tree.Jo {I:fP}:∀ (t:Tree) (env:List GV),t.go I env.length (λn=>env[n]?)=t.den I env
 | .step nd t,env=>by
  simp only [Tree.go,Tree.den];cases nd.den I λn=>env[n]? with
  | none=>rfl
  | some g=>
   simp only;rw [<- Tree.Jo t (env++[g])];congr 1
   ·simp
   ·funext n
    unfold upd;split
    ·next h=>subst h;simp
    ·next h=>
     show env[n]? = (env++[g])[n]?
     rcases vH n env.length with hl | hl
     ·rw [mF hl]
     ·rw [sD hl,Bj (l:=env) hl,Bj]
      simp;omega
 | .ite n t e,env=>by simp only [Tree.go,Tree.den,Tree.Jo t env,Tree.Jo e env];rfl
 | .ret l,env=>rfl
 | .tail f l,env=>rfl
 | .dead,env=>rfl
def XO (o:Option GV) (I:fP) (t:Tree) (k:Nat) (val:Nat->Option GV):Option (List GV):=match o with
 | some g=>t.go I (k+1) (upd val k g)
 | none=>none
def Yv (o:Option GV) (I:fP) (t e:Tree) (k:Nat) (val:Nat->Option GV):Option (List GV):=match o with
 | some (.b true)=>t.go I k val
 | some (.b false)=>e.go I k val
 | _=>none
section
variable {I:fP} {k:Nat} {val:Nat->Option GV}
@[simp] theorem aeb {g:GV} {t:Tree}:XO (some g) I t k val=t.go I (k+1) (upd val k g):=rfl
@[simp] theorem asw {c:Bool} {t e:Tree}:Yv (some (.b c)) I t e k val=if c=true then t.go I k val else e.go I k val:=by cases c<;>rfl
@[simp] theorem aqr {nd:Nd} {t:Tree}:(Tree.step nd t).go I k val=XO (nd.den I val) I t k val:=rfl
@[simp] theorem aus {n:Nat} {t e:Tree}:(Tree.ite n t e).go I k val=Yv (val n) I t e k val:=rfl
@[simp] theorem aut {l:List Nat}:(Tree.ret l).go I k val=valsOf val l:=rfl
@[simp] theorem aur:Tree.dead.go I k val=none:=rfl
@[simp] theorem auu {f:Nat} {l:List Nat}:(Tree.tail f l).go I k val=(valsOf val l).bind (I f):=by
 simp only [Tree.go];cases valsOf val l<;>rfl
end
@[simp] theorem akf {I:fP} {f j:Nat} {l:List Nat} {val:Nat->Option GV}:(Nd.call f l j).den I val=(valsOf val l).bind λgs=>(I f gs).bind λr=>r[j]?:=by
 simp only [Nd.den];cases valsOf val l with
 | none=>rfl
 | some gs=>simp only [zM];cases I f gs<;>rfl
@[simp] theorem auz {val:Nat->Option GV}:valsOf val []=some []:=rfl
@[simp] theorem adx {val:Nat->Option GV} {n:Nat} {l:List Nat}:valsOf val (n::l)=(val n).bind λg=>(valsOf val l).bind λr=>some (g::r):=by
 simp only [valsOf];cases val n<;>cases valsOf val l<;>rfl
def fE (op:BinOp) (x y:Option GV):Option GV:=match x,y with
 | some a,some b=>fO op a b
 | _,_=>none
def Qz (op:BinOp) (x y:Option GV):Option GV:=match x,y with
 | some a,some b=>LP op a b
 | _,_=>none
def IL (op:BinOp) (ks:List Nat) (x y:Option GV):Option GV:=match x,y with
 | some a,some b=>FH op ks a b
 | _,_=>none
def V3 (op:UnOp) (x:Option GV):Option GV:=match x with
 | some a=>PD op a
 | none=>none
section
variable {I:fP} {val:Nat->Option GV}
@[simp] theorem atA {k:IntKind} {n:Int}:(Nd.ci k n).den I val=some (.i k n):=rfl
@[simp] theorem aty {x:Bool}:(Nd.cb x).den I val=some (.b x):=rfl
@[simp] theorem atC {x:List UInt8}:(Nd.cs x).den I val=some (.s x):=rfl
@[simp] theorem atu {op:BinOp} {a b:Nat}:(Nd.bin op a b).den I val=fE op (val a) (val b):=rfl
@[simp] theorem atv {op:BinOp} {a b:Nat}:(Nd.Dx op a b).den I val=Qz op (val a) (val b):=rfl
@[simp] theorem atw {op:BinOp} {ks:List Nat} {a b:Nat}:(Nd.wF op ks a b).den I val=IL op ks (val a) (val b):=rfl
@[simp] theorem atX {op:UnOp} {a:Nat}:(Nd.un op a).den I val=V3 op (val a):=rfl
def JE (big:Bool) (x y:Option GV):Option GV:=match x,y with
 | some (.i k x),some (.i k' y)=>if k=k' then some (.i k (if big then (if x < y then y else x) else (if y < x then y else x))) else none
 | _,_=>none
@[simp] theorem atN {g:Bool} {a b:Nat}:(Nd.mm g a b).den I val=JE g (val a) (val b):=rfl
@[simp] theorem atp {k:IntKind} {x y:Int}:JE true (some (.i k x)) (some (.i k y))=some (.i k (if x < y then y else x)):=by simp [JE]
@[simp] theorem ato {k:IntKind} {x y:Int}:JE false (some (.i k x)) (some (.i k y))=some (.i k (if y < x then y else x)):=by simp [JE]
def Yx (k:IntKind) (x:Option GV):Option GV:=match x with
 | some (.i _ n)=>some (.i k (k.wrap n))
 | _=>none
@[simp] theorem atB {k:IntKind} {a:Nat}:(Nd.conv k a).den I val=Yx k (val a):=rfl
@[simp] theorem asx {k k':IntKind} {n:Int}:Yx k (some (.i k' n))=some (.i k (k.wrap n)):=rfl
def len1 (x:Option GV):Option GV:=match x with
 | some (.l xs)=>some (.i .i64 xs.length)
 | _=>none
@[simp] theorem atF {a:Nat}:(Nd.len a).den I val=len1 (val a):=rfl
@[simp] theorem atj {xs:List GV}:len1 (some (.l xs))=some (.i .i64 xs.length):=rfl
def acO (x:Option GV):Option GV:=match x with
 | some (.s x)=>some (.i .i64 x.length)
 | _=>none
@[simp] theorem atU {a:Nat}:(Nd.slen a).den I val=acO (val a):=rfl
@[simp] theorem aul {x:List UInt8}:acO (some (.s x))=some (.i .i64 x.length):=rfl
def VF (x i:Option GV):Option GV:=match x,i with
 | some (.s x),some (.i _ k)=>if 0<=k then match x[k.toNat]? with
  | some c=>some (.i .u8 c.toNat)
  | none=>none
  else none
 | _,_=>none
@[simp] theorem atT {a i:Nat}:(Nd.nP a i).den I val=VF (val a) (val i):=rfl
@[simp] theorem auk {x:List UInt8} {kk:IntKind} {k:Int}:VF (some (.s x)) (some (.i kk k))=if 0<=k then (x[k.toNat]?).bind λc=>some (.i .u8 c.toNat) else none:=by
 simp only [VF];split
 ·cases x[k.toNat]?<;>rfl
 ·rfl
def acW (x lo hi:Option GV):Option GV:=match x,lo,hi with
 | some (.s x),some (.i _ l),some (.i _ h)=>if 0<=l/\l<=h/\h<=x.length then some (.s ((x.take h.toNat).drop l.toNat)) else none
 | _,_,_=>none
@[simp] theorem atV {a l h:Nat}:(Nd.fV a l h).den I val=acW (val a) (val l) (val h):=rfl
def abe (z m k:Option GV):Option GV:=match z,m,k with
 | some d,some (.l xs),some g=>some ((gG g xs).getD d)
 | _,_,_=>none
def abf (m k:Option GV):Option GV:=match m,k with
 | some (.l xs),some g=>some (.b (gG g xs).isSome)
 | _,_=>none
def abg (m k v:Option GV):Option GV:=match m,k,v with
 | some (.l xs),some g,some u=>some (.l (kS g u xs))
 | _,_,_=>none
@[simp] theorem atH {z m k:Nat}:(Nd.yM z m k).den I val=abe (val z) (val m) (val k):=rfl
@[simp] theorem atJ {m k:Nat}:(Nd.Em m k).den I val=abf (val m) (val k):=rfl
@[simp] theorem atO {m k v:Nat}:(Nd.vU m k v).den I val=abg (val m) (val k) (val v):=rfl
@[simp] theorem atm {d g:GV} {xs:List GV}:abe (some d) (some (.l xs)) (some g)=some ((gG g xs).getD d):=rfl
@[simp] theorem atn {g:GV} {xs:List GV}:abf (some (.l xs)) (some g)=some (.b (gG g xs).isSome):=rfl
@[simp] theorem atq {g u:GV} {xs:List GV}:abg (some (.l xs)) (some g) (some u)=some (.l (kS g u xs)):=rfl
@[simp] theorem auq {x:List UInt8} {k k':IntKind} {l h:Int}:acW (some (.s x)) (some (.i k l)) (some (.i k' h))=if 0<=l/\l<=h/\h<=x.length then some (.s ((x.take h.toNat).drop l.toNat)) else none:=rfl
def aaV (size:Nat) (x lo hi:Option GV):Option GV:=match x,lo,hi with
 | some (.l xs),some (.i _ l),some (.i _ h)=>if 0<=l/\l<=h/\h<=xs.length/\(xs.all λx=>Nat.beq x.cells.length size)=true then some (.l ((xs.take h.toNat).drop l.toNat)) else none
 | _,_,_=>none
@[simp] theorem atG {s a l h:Nat}:(Nd.CJ s a l h).den I val=aaV s (val a) (val l) (val h):=rfl
@[simp] theorem atl {s:Nat} {xs:List GV} {k k':IntKind} {l h:Int}:aaV s (some (.l xs)) (some (.i k l)) (some (.i k' h))=if 0<=l/\l<=h/\h<=xs.length/\(xs.all λx=>Nat.beq x.cells.length s)=true then some (.l ((xs.take h.toNat).drop l.toNat)) else none:=rfl
def aak (x i:Option GV):Option GV:=match x,i with
 | some (.l xs),some (.i _ k)=>if 0<=k/\k < xs.length then some (.i .i64 k) else none
 | _,_=>none
@[simp] theorem atD {a i:Nat}:(Nd.idx a i).den I val=aak (val a) (val i):=rfl
@[simp] theorem ati {xs:List GV} {kk:IntKind} {k:Int}:aak (some (.l xs)) (some (.i kk k))=if 0<=k/\k < xs.length then some (.i .i64 k) else none:=rfl
def at2 (size:Nat) (x i:Option GV):Option GV:=match x,i with
 | some (.l xs),some (.i _ k)=>if 0<=k then match xs[k.toNat]? with
  | some x=>if x.cells.length=size then some x else none
  | none=>none
  else none
 | _,_=>none
@[simp] theorem att {s a i:Nat}:(Nd.at s a i).den I val=at2 s (val a) (val i):=rfl
@[simp] theorem arL {s:Nat} {xs:List GV} {kk:IntKind} {k:Int}:at2 s (some (.l xs)) (some (.i kk k))=if 0<=k then (xs[k.toNat]?).bind λx=>if x.cells.length=s then some x else none else none:=by
 simp only [at2];split
 ·cases xs[k.toNat]?<;>rfl
 ·rfl
def cell1 (off:Nat) (x:Option GV):Option GV:=match x with
 | some g=>match g.cells[off]? with
  | some c=>if c.scalar then some c else none
  | none=>none
 | none=>none
@[simp] theorem atz {o a:Nat}:(Nd.cell o a).den I val=cell1 o (val a):=rfl
@[simp] theorem asl {o:Nat} {g:GV}:cell1 o (some g)=(g.cells[o]?).bind λc=>if c.scalar=true then some c else none:=by
 simp only [cell1];cases g.cells[o]?<;>rfl
@[simp] theorem atK {l:List Nat}:(Nd.mk l).den I val=(valsOf val l).bind λgs=>if gs.all GV.scalar=true then some (.g gs) else none:=by
 simp only [Nd.den];cases valsOf val l<;>rfl
@[simp] theorem atM {l:List Nat}:(Nd.ml l).den I val=(valsOf val l).bind λgs=>some (.l gs):=by
 simp only [Nd.den];cases valsOf val l<;>rfl
def XC (size bs:Nat) (x y:Option GV):Option GV:=match x,y with
 | some (.l xs),some (.l ys)=>if ys.all (GV.fF size)=true/\2 * (xs.length+ys.length) * bs<=2 ^ 48/\xs.length+ys.length<=2 ^ 48 then some (.l (xs++ys)) else none
 | _,_=>none
@[simp] theorem atr {z s a b:Nat}:(Nd.app z s a b).den I val=XC z s (val a) (val b):=rfl
@[simp] theorem arJ {z s:Nat} {xs ys:List GV}:XC z s (some (.l xs)) (some (.l ys))=if ys.all (GV.fF z)=true/\2 * (xs.length+ys.length) * s<=2 ^ 48/\xs.length+ys.length<=2 ^ 48 then some (.l (xs++ys)) else none:=rfl
def V6 (size off:Nat) (x i:Option GV) (vs:Option (List GV)):Option GV:=match x,i,vs with
 | some (.l xs),some (.i _ k),some gs=>if 0<=k/\gs.all GV.scalar=true then match xs[k.toNat]? with
  | some x=>if x.cells.length=size then (x.put off gs).map λy=>.l (xs.set k.toNat y) else none
  | none=>none
  else none
 | _,_,_=>none
@[simp] theorem atY {s o a i:Nat} {vs:List Nat}:(Nd.upd s o a i vs).den I val=V6 s o (val a) (val i) (valsOf val vs):=rfl
@[simp] theorem auy {s o:Nat} {xs:List GV} {kk:IntKind} {k:Int} {gs:List GV}:V6 s o (some (.l xs)) (some (.i kk k)) (some gs)=if 0<=k/\gs.all GV.scalar=true then (xs[k.toNat]?).bind λx=>if x.cells.length=s then (x.put o gs).map λy=>.l (xs.set k.toNat y) else none else none:=by
 simp only [V6];split
 ·cases xs[k.toNat]?<;>rfl
 ·rfl
@[simp] theorem aua {k:IntKind} {n:Int} {v:GV}:(GV.i k n).put 0 [v]=some v:=rfl
def ab8 (size QA:Nat) (z l c:Option GV):Option GV:=match z,l,c with
 | some x,some (.i _ n),some (.i _ m)=>if 0<=n/\n<=m/\QA * m<=2 ^ 48/\m<=2 ^ 60/\x.fF size=true then some (.l (List.replicate n.toNat x)) else none
 | _,_,_=>none
@[simp] theorem atP {s b z l c:Nat}:(Nd.rep s b z l c).den I val=ab8 s b (val z) (val l) (val c):=rfl
@[simp] theorem aub {s b:Nat} {x:GV} {k k':IntKind} {n m:Int}:ab8 s b (some x) (some (.i k n)) (some (.i k' m))=if 0<=n/\n<=m/\b * m<=2 ^ 48/\m<=2 ^ 60/\x.fF s=true then some (.l (List.replicate n.toNat x)) else none:=by
 cases x<;>rfl
@[simp] theorem atx {a:Nat}:(Nd.bytes a).den I val=(val a).bind λg=>match g with | .s x=>some (.l (nX x)) | _=>none:=by
 simp only [Nd.den];cases val a with
 | none=>rfl
 | some g=>cases g<;>rfl
@[simp] theorem atW {a:Nat}:(Nd.str a).den I val=(val a).bind λg=>match g with | .l xs=>if xs.length<=2 ^ 48 then (mP xs).map .s else none | _=>none:=by
 simp only [Nd.den];cases val a with
 | none=>rfl
 | some g=>cases g<;>rfl
@[simp] theorem atQ {a b:Nat}:(Nd.same a b).den I val=(val a).bind λg=>(val b).bind λh=>match g,h with | .l xs,.l ys=>if ys.length=xs.length then some (.l ys) else none | _,_=>none:=by
 simp only [Nd.den];cases val a with
 | none=>rfl
 | some g=>cases val b with
  | none=>cases g<;>rfl
  | some h=>cases g<;>cases h<;>rfl
@[simp] theorem atE {a j:Nat}:(Nd.yJ a j).den I val=(val a).bind λg=>match g with | .i _ m=>some (.b (decide (m=(j:Int)))) | _=>none:=by
 simp only [Nd.den];cases val a with
 | none=>rfl
 | some g=>cases g<;>rfl
@[simp] theorem atS {a:Nat}:(Nd.EL a).den I val=(val a).bind λg=>match g with | .s x=>some (.s x) | _=>none:=by
 simp only [Nd.den];cases val a with
 | none=>rfl
 | some g=>cases g<;>rfl
end
section
variable {k:IntKind} {a b:Int}
@[simp] theorem arM:fE .add (some (.i k a)) (some (.i k b))=some (.i k (k.wrap (a+b))):=by simp [fE,fO,gI]
@[simp] theorem ar7:fE .sub (some (.i k a)) (some (.i k b))=some (.i k (k.wrap (a - b))):=by simp [fE,fO,gI]
@[simp] theorem arT:fE .mul (some (.i k a)) (some (.i k b))=some (.i k (k.wrap (a * b))):=by simp [fE,fO,gI]
@[simp] theorem arW:fE .quo (some (.i k a)) (some (.i k b))=if b=0 then none else some (.i k (k.wrap (a.tdiv b))):=by simp [fE,fO,gI]
@[simp] theorem arX:fE .rem (some (.i k a)) (some (.i k b))=if b=0 then none else some (.i k (a.tmod b)):=by simp [fE,fO,gI]
@[simp] theorem arO:fE .eql (some (.i k a)) (some (.i k b))=some (.b (decide (a=b))):=by
 simp only [fE,fO,gI,if_true];rw [show (a==b)=decide (a=b) from rfl]
@[simp] theorem arU:fE .neq (some (.i k a)) (some (.i k b))=some (.b (decide (a≠b))):=by
 simp only [fE,fO,gI,if_true,bne];rw [show (a==b)=decide (a=b) from rfl,<- decide_not]
@[simp] theorem arS:fE .lss (some (.i k a)) (some (.i k b))=some (.b (decide (a < b))):=by simp [fE,fO,gI]
@[simp] theorem arR:fE .leq (some (.i k a)) (some (.i k b))=some (.b (decide (a<=b))):=by simp [fE,fO,gI]
@[simp] theorem arQ:fE .gtr (some (.i k a)) (some (.i k b))=some (.b (decide (b < a))):=by simp [fE,fO,gI]
@[simp] theorem arP:fE .geq (some (.i k a)) (some (.i k b))=some (.b (decide (b<=a))):=by simp [fE,fO,gI]
@[simp] theorem arN:fE .and (some (.i k a)) (some (.i k b))=gI .and k a b:=by simp [fE,fO]
@[simp] theorem arV:fE .or (some (.i k a)) (some (.i k b))=gI .or k a b:=by simp [fE,fO]
@[simp] theorem ar8:fE .xor (some (.i k a)) (some (.i k b))=gI .xor k a b:=by simp [fE,fO]
@[simp] theorem ar1 {k':IntKind}:fE .shl (some (.i k a)) (some (.i k' b))=pY .shl k a b:=rfl
@[simp] theorem ar2 {k':IntKind}:fE .shr (some (.i k a)) (some (.i k' b))=pY .shr k a b:=rfl
end
section
variable {a b:List UInt8}
@[simp] theorem Qy:fE .add (some (.s a)) (some (.s b))=if ((a.length+b.length:Nat):Int)<=9223372036854775807 then some (.s (a++b)) else none:=by
 simp only [fE,fO,uo];rfl
@[simp] theorem arY:fE .eql (some (.s a)) (some (.s b))=some (.b (decide (a=b))):=by
 simp only [fE,fO,uo];congr 2;rw [vg];simp
@[simp] theorem ar6:fE .neq (some (.s a)) (some (.s b))=some (.b (decide (a≠b))):=by
 simp only [fE,fO,uo];congr 2;rw [vg];simp
@[simp] theorem ar5:fE .lss (some (.s a)) (some (.s b))=some (.b (Op.bytesLess a b)):=rfl
@[simp] theorem arZ:fE .geq (some (.s a)) (some (.s b))=some (.b (!(Op.bytesLess a b))):=rfl
@[simp] theorem ar4:fE .leq (some (.s a)) (some (.s b))=some (.b (Op.bytesLess a b || a==b)):=rfl
@[simp] theorem ar0:fE .gtr (some (.s a)) (some (.s b))=some (.b (!(Op.bytesLess a b || a==b))):=rfl
end
@[simp] theorem ar9 {a b:Bool}:Qz .eql (some (.b a)) (some (.b b))=some (.b (a==b)):=rfl
@[simp] theorem asa {a b:Bool}:Qz .neq (some (.b a)) (some (.b b))=some (.b (!(a==b))):=rfl
@[simp] theorem asb {ks:List Nat} {a b:List GV}:IL .eql ks (some (.g a)) (some (.g b))=(mW ks a b).bind λr=>some (.b r):=by
 simp only [IL,FH];cases mW ks a b<;>rfl
@[simp] theorem asc {ks:List Nat} {a b:List GV}:IL .neq ks (some (.g a)) (some (.g b))=(mW ks a b).bind λr=>some (.b (!r)):=by
 simp only [IL,FH];cases mW ks a b<;>rfl
@[simp] theorem auw {a:Bool}:V3 .not (some (.b a))=some (.b (!a)):=rfl
@[simp] theorem auv {k:IntKind} {a:Int}:V3 .neg (some (.i k a))=some (.i k (k.wrap (0 - a))):=rfl
@[simp] theorem aso {cs:List GV}:(GV.g cs).cells=cs:=rfl
@[simp] theorem asq {k:IntKind} {n:Int}:(GV.i k n).cells=[.i k n]:=rfl
@[simp] theorem asn {x:Bool}:(GV.b x).cells=[.b x]:=rfl
@[simp] theorem asu {x:List UInt8}:(GV.s x).cells=[.s x]:=rfl
@[simp] theorem asr {x:List GV}:(GV.l x).cells=[.l x]:=rfl
@[simp] theorem aug {cs:List GV}:(GV.g cs).scalar=false:=rfl
@[simp] theorem auh {k:IntKind} {n:Int}:(GV.i k n).scalar=true:=rfl
@[simp] theorem auf {x:Bool}:(GV.b x).scalar=true:=rfl
@[simp] theorem auj {x:List UInt8}:(GV.s x).scalar=true:=rfl
@[simp] theorem aui {x:List GV}:(GV.l x).scalar=true:=rfl
theorem aG {Ds:List aF} {k:Nat} {si so:List oN} {t:Tree} {gs out:List GV} (hk:Ds[k]? = some (.fn si so t)) (hi:oJ si gs=true) (h:t.go (vK Ds).lim gs.length (Qv gs)=some out) (ho:oJ so out=true):(vK Ds).lim k gs=some out:=by
 have h:t.den (vK Ds).lim gs=some out:=(Tree.Jo t gs).symm.trans h;exact Ef hk (by simp only [aF.den,ak hi,h,ak ho])
theorem ay {Ds:List aF} {k n:Nat} {t:Tree} {gs out:List GV} (hk:Ds[k]? = some (.tree n t)) (hn:gs.length=n) (h:t.go (vK Ds).lim gs.length (Qv gs)=some out):(vK Ds).lim k gs=some out:=by
 have h:t.den (vK Ds).lim gs=some out:=(Tree.Jo t gs).symm.trans h;exact Ef hk (by simp only [aF.den,ak hn,h])
theorem OB {Ds:List aF} {k:Nat} {f:List GV->Option (List GV)} {gs out:List GV} (hk:Ds[k]? = some (.tY f)) (h:f gs=some out):(vK Ds).lim k gs=some out:=
 Ef hk h
theorem ah6 {gs:List GV} (h:hasArgs [] gs):gs=[]:=by simpa only [hasArgs] using h
theorem ah7 {t:dw} {l:List dw} {gs:List GV} (h:dw.ji (t::l) gs):∃g r,gs=g::r/\t.has g/\dw.ji l r:=by simpa only [dw.ji] using h
theorem Z4 {t:dw} {r:List (Bool×List dw)} {gs:List GV} (h:hasArgs ((false,[t])::r) gs):∃g gs',gs=g::gs'/\t.has g/\hasArgs r gs':=by
 simp only [hasArgs] at h;obtain ⟨g,gs',rfl,h1,h2,h3⟩:=h;refine ⟨_,_,rfl, ?_,h3⟩;obtain ⟨g0,r0,e,h4,h5⟩:=ah7 h1;cases g<;>simp [GV.scalar] at h2<;>simp only [GV.cells,EZ] at e<;>rw [e.1]<;>exact h4
theorem wrap64 {n:Int} (h0 : -9223372036854775808<=n) (h1:n<=9223372036854775807):IntKind.i64.wrap n=n:=by
 have:IntKind.i64.wrap n=if n % 18446744073709551616>=9223372036854775808 then n % 18446744073709551616 - 18446744073709551616 else n % 18446744073709551616:=by
  simp [IntKind.wrap,IntKind.signed,IntKind.bits]
 rw [this];split<;>omega
theorem dX {n:Int} (h0:0<=n) (h1:n < 18446744073709551616):IntKind.u64.wrap n=n:=by
 have:IntKind.u64.wrap n=n % 18446744073709551616:=by
  simp [IntKind.wrap,IntKind.signed,IntKind.bits]
 rw [this];omega
end Go.aK
