/- Plain laws over trees: values of one's own as ground values; how a tree is gone through. -/
import Derived.Test.YthgifdbaegpbpaaGreatDoorAbsJ
namespace Go.aN
set_option linter.unusedSimpArgs false
theorem Ep {Ds:List aJ} {k:Nat} {d:aJ} {gs out:List GV} (hk:Ds[k]? = some d) (h:d.den (wI Ds).lim gs=some out):(wI Ds).lim k gs=some out:=gJ.ajP hk h
def upd (val:Nat->Option GV) (k:Nat) (g:GV):Nat->Option GV:=λn=>if n=k then some g else val n
def Sl (gs:List GV):Nat->Option GV:=λn=>gs[n]?
@[simp] theorem ar4 {gs:List GV} {n:Nat}:Sl gs n=gs[n]?:=rfl
@[simp] theorem upd_same {val:Nat->Option GV} {k:Nat} {g:GV}:upd val k g k=some g:=aj rfl
@[simp] theorem upd_ne {val:Nat->Option GV} {k n:Nat} {g:GV} (h:n≠k):upd val k g n=val n:=ah h
def Tree.go (I:gu):Tree->Nat->(Nat->Option GV)->Option (List GV)
 | .step nd t,k,val=>match nd.den I val with
  | some g=>t.go I (k+1) (upd val k g)
  | none=>none
 | .ite n t e,k,val=>match val n with
  | some (.b true)=>t.go I k val
  | some (.b false)=>e.go I k val
  | _=>none
 | .ret l,_,val=>valsOf val l
 | .tail f l,_,val=>match valsOf val l with
  | some gs=>I f gs
  | none=>none
 | .dead,_,_=>none
theorem Tree.J6 {I:gu}:∀ (t:Tree) (env:List GV),t.go I env.length (λn=>env[n]?)=t.den I env
 | .step nd t,env=>by
  simp only [Tree.go,Tree.den];cases nd.den I λn=>env[n]? with
  | none=>rfl
  | some g=>
   simp only;rw [<- Tree.J6 t (env++[g])];congr 1
   ·simp
   ·funext n
    unfold upd;split
    ·next h=>subst h;simp
    ·next h=>
     show env[n]? = (env++[g])[n]?
     rcases yA n env.length with hl | hl
     ·rw [kM hl]
     ·rw [tZ hl,wB (l:=env) hl,wB]
      simp;omega
 | .ite n t e,env=>by simp only [Tree.go,Tree.den,Tree.J6 t env,Tree.J6 e env];rfl
 | .ret l,env=>rfl
 | .tail f l,env=>rfl
 | .dead,env=>rfl
def YU (o:Option GV) (I:gu) (t:Tree) (k:Nat) (val:Nat->Option GV):Option (List GV):=match o with
 | some g=>t.go I (k+1) (upd val k g)
 | none=>none
def Zx (o:Option GV) (I:gu) (t e:Tree) (k:Nat) (val:Nat->Option GV):Option (List GV):=match o with
 | some (.b true)=>t.go I k val
 | some (.b false)=>e.go I k val
 | _=>none
section
variable {I:gu} {k:Nat} {val:Nat->Option GV}
@[simp] theorem afe {g:GV} {t:Tree}:YU (some g) I t k val=t.go I (k+1) (upd val k g):=rfl
@[simp] theorem asO {c:Bool} {t e:Tree}:Zx (some (.b c)) I t e k val=if c=true then t.go I k val else e.go I k val:=by cases c<;>rfl
@[simp] theorem aqC {nd:Nd} {t:Tree}:(Tree.step nd t).go I k val=YU (nd.den I val) I t k val:=rfl
@[simp] theorem auJ {n:Nat} {t e:Tree}:(Tree.ite n t e).go I k val=Zx (val n) I t e k val:=rfl
@[simp] theorem auK {l:List Nat}:(Tree.ret l).go I k val=valsOf val l:=rfl
@[simp] theorem auI:Tree.dead.go I k val=none:=rfl
@[simp] theorem auL {f:Nat} {l:List Nat}:(Tree.tail f l).go I k val=(valsOf val l).bind (I f):=by
 simp only [Tree.go];cases valsOf val l<;>rfl
end
@[simp] theorem ali {I:gu} {f j:Nat} {l:List Nat} {val:Nat->Option GV}:(Nd.call f l j).den I val=(valsOf val l).bind λgs=>(I f gs).bind λr=>r[j]?:=by
 simp only [Nd.den];cases valsOf val l with
 | none=>rfl
 | some gs=>simp only [zH];cases I f gs<;>rfl
@[simp] theorem auP {val:Nat->Option GV}:valsOf val []=some []:=rfl
@[simp] theorem aej {val:Nat->Option GV} {n:Nat} {l:List Nat}:valsOf val (n::l)=(val n).bind λg=>(valsOf val l).bind λr=>some (g::r):=by
 simp only [valsOf];cases val n<;>cases valsOf val l<;>rfl
def gK (op:BinOp) (x y:Option GV):Option GV:=match x,y with
 | some a,some b=>fZ op a b
 | _,_=>none
def Sv (op:BinOp) (x y:Option GV):Option GV:=match x,y with
 | some a,some b=>Nu op a b
 | _,_=>none
def Jz (op:BinOp) (ks:List Nat) (x y:Option GV):Option GV:=match x,y with
 | some a,some b=>Gv op ks a b
 | _,_=>none
def Xz (op:UnOp) (x:Option GV):Option GV:=match x with
 | some a=>QV op a
 | none=>none
section
variable {I:gu} {val:Nat->Option GV}
@[simp] theorem atT {k:IntKind} {n:Int}:(Nd.ci k n).den I val=some (.i k n):=rfl
@[simp] theorem atQ {x:Bool}:(Nd.cb x).den I val=some (.b x):=rfl
@[simp] theorem atV {x:List UInt8}:(Nd.cs x).den I val=some (.s x):=rfl
@[simp] theorem atM {op:BinOp} {a b:Nat}:(Nd.bin op a b).den I val=gK op (val a) (val b):=rfl
@[simp] theorem atN {op:BinOp} {a b:Nat}:(Nd.BG op a b).den I val=Sv op (val a) (val b):=rfl
@[simp] theorem atO {op:BinOp} {ks:List Nat} {a b:Nat}:(Nd.BH op ks a b).den I val=Jz op ks (val a) (val b):=rfl
@[simp] theorem auk {op:UnOp} {a:Nat}:(Nd.un op a).den I val=Xz op (val a):=rfl
def KJ (big:Bool) (x y:Option GV):Option GV:=match x,y with
 | some (.i k x),some (.i k' y)=>if k=k' then some (.i k (if big then (if x < y then y else x) else (if y < x then y else x))) else none
 | _,_=>none
@[simp] theorem aub {g:Bool} {a b:Nat}:(Nd.mm g a b).den I val=KJ g (val a) (val b):=rfl
@[simp] theorem atH {k:IntKind} {x y:Int}:KJ true (some (.i k x)) (some (.i k y))=some (.i k (if x < y then y else x)):=by simp [KJ]
@[simp] theorem atG {k:IntKind} {x y:Int}:KJ false (some (.i k x)) (some (.i k y))=some (.i k (if y < x then y else x)):=by simp [KJ]
def Zz (k:IntKind) (x:Option GV):Option GV:=match x with
 | some (.i _ n)=>some (.i k (k.wrap n))
 | _=>none
@[simp] theorem atU {k:IntKind} {a:Nat}:(Nd.conv k a).den I val=Zz k (val a):=rfl
@[simp] theorem asP {k k':IntKind} {n:Int}:Zz k (some (.i k' n))=some (.i k (k.wrap n)):=rfl
def len1 (x:Option GV):Option GV:=match x with
 | some (.l xs)=>some (.i .i64 xs.length)
 | _=>none
@[simp] theorem atY {a:Nat}:(Nd.len a).den I val=len1 (val a):=rfl
@[simp] theorem atC {xs:List GV}:len1 (some (.l xs))=some (.i .i64 xs.length):=rfl
def adD (x:Option GV):Option GV:=match x with
 | some (.s x)=>some (.i .i64 x.length)
 | _=>none
@[simp] theorem auh {a:Nat}:(Nd.slen a).den I val=adD (val a):=rfl
@[simp] theorem auC {x:List UInt8}:adD (some (.s x))=some (.i .i64 x.length):=rfl
def Xf (x i:Option GV):Option GV:=match x,i with
 | some (.s x),some (.i _ k)=>if 0<=k then match x[k.toNat]? with
  | some c=>some (.i .u8 c.toNat)
  | none=>none
  else none
 | _,_=>none
@[simp] theorem aug {a i:Nat}:(Nd.zl a i).den I val=Xf (val a) (val i):=rfl
@[simp] theorem auB {x:List UInt8} {kk:IntKind} {k:Int}:Xf (some (.s x)) (some (.i kk k))=if 0<=k then (x[k.toNat]?).bind λc=>some (.i .u8 c.toNat) else none:=by
 simp only [Xf];split
 ·cases x[k.toNat]?<;>rfl
 ·rfl
def adK (x lo hi:Option GV):Option GV:=match x,lo,hi with
 | some (.s x),some (.i _ l),some (.i _ h)=>if 0<=l/\l<=h/\h<=x.length then some (.s ((x.take h.toNat).drop l.toNat)) else none
 | _,_,_=>none
@[simp] theorem aui {a l h:Nat}:(Nd.pU a l h).den I val=adK (val a) (val l) (val h):=rfl
def acn (z m k:Option GV):Option GV:=match z,m,k with
 | some d,some (.l xs),some g=>some ((gV g xs).getD d)
 | _,_,_=>none
def aco (m k:Option GV):Option GV:=match m,k with
 | some (.l xs),some g=>some (.b (gV g xs).isSome)
 | _,_=>none
def acp (m k v:Option GV):Option GV:=match m,k,v with
 | some (.l xs),some g,some u=>some (.l (jR g u xs))
 | _,_,_=>none
@[simp] theorem at1 {z m k:Nat}:(Nd.yZ z m k).den I val=acn (val z) (val m) (val k):=rfl
@[simp] theorem at6 {m k:Nat}:(Nd.Ew m k).den I val=aco (val m) (val k):=rfl
@[simp] theorem auc {m k v:Nat}:(Nd.wV m k v).den I val=acp (val m) (val k) (val v):=rfl
@[simp] theorem atE {d g:GV} {xs:List GV}:acn (some d) (some (.l xs)) (some g)=some ((gV g xs).getD d):=rfl
@[simp] theorem atF {g:GV} {xs:List GV}:aco (some (.l xs)) (some g)=some (.b (gV g xs).isSome):=rfl
@[simp] theorem atI {g u:GV} {xs:List GV}:acp (some (.l xs)) (some g) (some u)=some (.l (jR g u xs)):=rfl
@[simp] theorem auH {x:List UInt8} {k k':IntKind} {l h:Int}:adK (some (.s x)) (some (.i k l)) (some (.i k' h))=if 0<=l/\l<=h/\h<=x.length then some (.s ((x.take h.toNat).drop l.toNat)) else none:=rfl
def abV (size:Nat) (x lo hi:Option GV):Option GV:=match x,lo,hi with
 | some (.l xs),some (.i _ l),some (.i _ h)=>if 0<=l/\l<=h/\h<=xs.length/\(xs.all λx=>Nat.beq x.cells.length size)=true then some (.l ((xs.take h.toNat).drop l.toNat)) else none
 | _,_,_=>none
@[simp] theorem atZ {s a l h:Nat}:(Nd.xX s a l h).den I val=abV s (val a) (val l) (val h):=rfl
@[simp] theorem atD {s:Nat} {xs:List GV} {k k':IntKind} {l h:Int}:abV s (some (.l xs)) (some (.i k l)) (some (.i k' h))=if 0<=l/\l<=h/\h<=xs.length/\(xs.all λx=>Nat.beq x.cells.length s)=true then some (.l ((xs.take h.toNat).drop l.toNat)) else none:=rfl
def abk (x i:Option GV):Option GV:=match x,i with
 | some (.l xs),some (.i _ k)=>if 0<=k/\k < xs.length then some (.i .i64 k) else none
 | _,_=>none
@[simp] theorem atW {a i:Nat}:(Nd.idx a i).den I val=abk (val a) (val i):=rfl
@[simp] theorem atB {xs:List GV} {kk:IntKind} {k:Int}:abk (some (.l xs)) (some (.i kk k))=if 0<=k/\k < xs.length then some (.i .i64 k) else none:=rfl
def at2 (size:Nat) (x i:Option GV):Option GV:=match x,i with
 | some (.l xs),some (.i _ k)=>if 0<=k then match xs[k.toNat]? with
  | some x=>if x.cells.length=size then some x else none
  | none=>none
  else none
 | _,_=>none
@[simp] theorem atK {s a i:Nat}:(Nd.at s a i).den I val=at2 s (val a) (val i):=rfl
@[simp] theorem ar5 {s:Nat} {xs:List GV} {kk:IntKind} {k:Int}:at2 s (some (.l xs)) (some (.i kk k))=if 0<=k then (xs[k.toNat]?).bind λx=>if x.cells.length=s then some x else none else none:=by
 simp only [at2];split
 ·cases xs[k.toNat]?<;>rfl
 ·rfl
def cell1 (off:Nat) (x:Option GV):Option GV:=match x with
 | some g=>match g.cells[off]? with
  | some c=>if c.scalar then some c else none
  | none=>none
 | none=>none
@[simp] theorem atS {o a:Nat}:(Nd.cell o a).den I val=cell1 o (val a):=rfl
@[simp] theorem asI {o:Nat} {g:GV}:cell1 o (some g)=(g.cells[o]?).bind λc=>if c.scalar=true then some c else none:=by
 simp only [cell1];cases g.cells[o]?<;>rfl
@[simp] theorem at7 {l:List Nat}:(Nd.mk l).den I val=(valsOf val l).bind λgs=>if gs.all GV.scalar=true then some (.g gs) else none:=by
 simp only [Nd.den];cases valsOf val l<;>rfl
@[simp] theorem aua {l:List Nat}:(Nd.ml l).den I val=(valsOf val l).bind λgs=>some (.l gs):=by
 simp only [Nd.den];cases valsOf val l<;>rfl
def YK (size bs:Nat) (x y:Option GV):Option GV:=match x,y with
 | some (.l xs),some (.l ys)=>if ys.all (GV.fO size)=true/\2 * (xs.length+ys.length) * bs<=2 ^ 48/\xs.length+ys.length<=2 ^ 48 then some (.l (xs++ys)) else none
 | _,_=>none
@[simp] theorem atJ {z s a b:Nat}:(Nd.app z s a b).den I val=YK z s (val a) (val b):=rfl
@[simp] theorem ar2 {z s:Nat} {xs ys:List GV}:YK z s (some (.l xs)) (some (.l ys))=if ys.all (GV.fO z)=true/\2 * (xs.length+ys.length) * s<=2 ^ 48/\xs.length+ys.length<=2 ^ 48 then some (.l (xs++ys)) else none:=rfl
def XC (size off:Nat) (x i:Option GV) (vs:Option (List GV)):Option GV:=match x,i,vs with
 | some (.l xs),some (.i _ k),some gs=>if 0<=k/\gs.all GV.scalar=true then match xs[k.toNat]? with
  | some x=>if x.cells.length=size then (x.put off gs).map λy=>.l (xs.set k.toNat y) else none
  | none=>none
  else none
 | _,_,_=>none
@[simp] theorem aul {s o a i:Nat} {vs:List Nat}:(Nd.upd s o a i vs).den I val=XC s o (val a) (val i) (valsOf val vs):=rfl
@[simp] theorem auO {s o:Nat} {xs:List GV} {kk:IntKind} {k:Int} {gs:List GV}:XC s o (some (.l xs)) (some (.i kk k)) (some gs)=if 0<=k/\gs.all GV.scalar=true then (xs[k.toNat]?).bind λx=>if x.cells.length=s then (x.put o gs).map λy=>.l (xs.set k.toNat y) else none else none:=by
 simp only [XC];split
 ·cases xs[k.toNat]?<;>rfl
 ·rfl
@[simp] theorem auq {k:IntKind} {n:Int} {v:GV}:(GV.i k n).put 0 [v]=some v:=rfl
def adi (size Sz:Nat) (z l c:Option GV):Option GV:=match z,l,c with
 | some x,some (.i _ n),some (.i _ m)=>if 0<=n/\n<=m/\Sz * m<=2 ^ 48/\m<=2 ^ 60/\x.fO size=true then some (.l (List.replicate n.toNat x)) else none
 | _,_,_=>none
@[simp] theorem aud {s b z l c:Nat}:(Nd.rep s b z l c).den I val=adi s b (val z) (val l) (val c):=rfl
@[simp] theorem aur {s b:Nat} {x:GV} {k k':IntKind} {n m:Int}:adi s b (some x) (some (.i k n)) (some (.i k' m))=if 0<=n/\n<=m/\b * m<=2 ^ 48/\m<=2 ^ 60/\x.fO s=true then some (.l (List.replicate n.toNat x)) else none:=by
 cases x<;>rfl
@[simp] theorem atP {a:Nat}:(Nd.bytes a).den I val=(val a).bind λg=>match g with | .s x=>some (.l (dZ x)) | _=>none:=by
 simp only [Nd.den];cases val a with
 | none=>rfl
 | some g=>cases g<;>rfl
@[simp] theorem auj {a:Nat}:(Nd.str a).den I val=(val a).bind λg=>match g with | .l xs=>if xs.length<=2 ^ 48 then (oz xs).map .s else none | _=>none:=by
 simp only [Nd.den];cases val a with
 | none=>rfl
 | some g=>cases g<;>rfl
@[simp] theorem aue {a b:Nat}:(Nd.same a b).den I val=(val a).bind λg=>(val b).bind λh=>match g,h with | .l xs,.l ys=>if ys.length=xs.length then some (.l ys) else none | _,_=>none:=by
 simp only [Nd.den];cases val a with
 | none=>rfl
 | some g=>cases val b with
  | none=>cases g<;>rfl
  | some h=>cases g<;>cases h<;>rfl
@[simp] theorem atX {a j:Nat}:(Nd.yU a j).den I val=(val a).bind λg=>match g with | .i _ m=>some (.b (decide (m=(j:Int)))) | _=>none:=by
 simp only [Nd.den];cases val a with
 | none=>rfl
 | some g=>cases g<;>rfl
@[simp] theorem auf {a:Nat}:(Nd.FD a).den I val=(val a).bind λg=>match g with | .s x=>some (.s x) | _=>none:=by
 simp only [Nd.den];cases val a with
 | none=>rfl
 | some g=>cases g<;>rfl
end
section
variable {k:IntKind} {a b:Int}
@[simp] theorem ar6:gK .add (some (.i k a)) (some (.i k b))=some (.i k (k.wrap (a+b))):=by simp [gK,fZ,fE]
@[simp] theorem asx:gK .sub (some (.i k a)) (some (.i k b))=some (.i k (k.wrap (a - b))):=by simp [gK,fZ,fE]
@[simp] theorem ase:gK .mul (some (.i k a)) (some (.i k b))=some (.i k (k.wrap (a * b))):=by simp [gK,fZ,fE]
@[simp] theorem ash:gK .quo (some (.i k a)) (some (.i k b))=if b=0 then none else some (.i k (k.wrap (a.tdiv b))):=by simp [gK,fZ,fE]
@[simp] theorem asi:gK .rem (some (.i k a)) (some (.i k b))=if b=0 then none else some (.i k (a.tmod b)):=by simp [gK,fZ,fE]
@[simp] theorem ar8:gK .eql (some (.i k a)) (some (.i k b))=some (.b (decide (a=b))):=by
 simp only [gK,fZ,fE,if_true];rw [show (a==b)=decide (a=b) from rfl]
@[simp] theorem asf:gK .neq (some (.i k a)) (some (.i k b))=some (.b (decide (a≠b))):=by
 simp only [gK,fZ,fE,if_true,bne];rw [show (a==b)=decide (a=b) from rfl,<- decide_not]
@[simp] theorem asc:gK .lss (some (.i k a)) (some (.i k b))=some (.b (decide (a < b))):=by simp [gK,fZ,fE]
@[simp] theorem asb:gK .leq (some (.i k a)) (some (.i k b))=some (.b (decide (a<=b))):=by simp [gK,fZ,fE]
@[simp] theorem asa:gK .gtr (some (.i k a)) (some (.i k b))=some (.b (decide (b < a))):=by simp [gK,fZ,fE]
@[simp] theorem ar9:gK .geq (some (.i k a)) (some (.i k b))=some (.b (decide (b<=a))):=by simp [gK,fZ,fE]
@[simp] theorem ar7:gK .and (some (.i k a)) (some (.i k b))=fE .and k a b:=by simp [gK,fZ]
@[simp] theorem asg:gK .or (some (.i k a)) (some (.i k b))=fE .or k a b:=by simp [gK,fZ]
@[simp] theorem asy:gK .xor (some (.i k a)) (some (.i k b))=fE .xor k a b:=by simp [gK,fZ]
@[simp] theorem asq {k':IntKind}:gK .shl (some (.i k a)) (some (.i k' b))=nY .shl k a b:=rfl
@[simp] theorem asr {k':IntKind}:gK .shr (some (.i k a)) (some (.i k' b))=nY .shr k a b:=rfl
end
section
variable {a b:List UInt8}
@[simp] theorem asj:gK .add (some (.s a)) (some (.s b))=if ((a.length+b.length:Nat):Int)<=9223372036854775807 then some (.s (a++b)) else none:=by
 simp only [gK,fZ,uX];rfl
@[simp] theorem asl:gK .eql (some (.s a)) (some (.s b))=some (.b (decide (a=b))):=by
 simp only [gK,fZ,uX];congr 2;rw [qE];simp
@[simp] theorem asw:gK .neq (some (.s a)) (some (.s b))=some (.b (decide (a≠b))):=by
 simp only [gK,fZ,uX];congr 2;rw [qE];simp
@[simp] theorem asv:gK .lss (some (.s a)) (some (.s b))=some (.b (Op.bytesLess a b)):=rfl
@[simp] theorem asn:gK .geq (some (.s a)) (some (.s b))=some (.b (!(Op.bytesLess a b))):=rfl
@[simp] theorem asu:gK .leq (some (.s a)) (some (.s b))=some (.b (Op.bytesLess a b || a==b)):=rfl
@[simp] theorem aso:gK .gtr (some (.s a)) (some (.s b))=some (.b (!(Op.bytesLess a b || a==b))):=rfl
end
@[simp] theorem asz {a b:Bool}:Sv .eql (some (.b a)) (some (.b b))=some (.b (a==b)):=rfl
@[simp] theorem asA {a b:Bool}:Sv .neq (some (.b a)) (some (.b b))=some (.b (!(a==b))):=rfl
@[simp] theorem asB {ks:List Nat} {a b:List GV}:Jz .eql ks (some (.g a)) (some (.g b))=(kT ks a b).bind λr=>some (.b r):=by
 simp only [Jz,Gv];cases kT ks a b<;>rfl
@[simp] theorem asC {ks:List Nat} {a b:List GV}:Jz .neq ks (some (.g a)) (some (.g b))=(kT ks a b).bind λr=>some (.b (!r)):=by
 simp only [Jz,Gv];cases kT ks a b<;>rfl
@[simp] theorem auN {a:Bool}:Xz .not (some (.b a))=some (.b (!a)):=rfl
@[simp] theorem auM {k:IntKind} {a:Int}:Xz .neg (some (.i k a))=some (.i k (k.wrap (0 - a))):=rfl
@[simp] theorem SH {cs:List GV}:(GV.g cs).cells=cs:=rfl
@[simp] theorem asK {k:IntKind} {n:Int}:(GV.i k n).cells=[.i k n]:=rfl
@[simp] theorem asJ {x:Bool}:(GV.b x).cells=[.b x]:=rfl
@[simp] theorem asM {x:List UInt8}:(GV.s x).cells=[.s x]:=rfl
@[simp] theorem asL {x:List GV}:(GV.l x).cells=[.l x]:=rfl
@[simp] theorem auw {cs:List GV}:(GV.g cs).scalar=false:=rfl
@[simp] theorem auy {k:IntKind} {n:Int}:(GV.i k n).scalar=true:=rfl
@[simp] theorem auv {x:Bool}:(GV.b x).scalar=true:=rfl
@[simp] theorem auA {x:List UInt8}:(GV.s x).scalar=true:=rfl
@[simp] theorem auz {x:List GV}:(GV.l x).scalar=true:=rfl
theorem aY {Ds:List aJ} {k:Nat} {si so:List oZ} {t:Tree} {gs out:List GV} (hk:Ds[k]? = some (.fn si so t)) (hi:oO si gs=true) (h:t.go (wI Ds).lim gs.length (Sl gs)=some out) (ho:oO so out=true):(wI Ds).lim k gs=some out:=by
 have h:t.den (wI Ds).lim gs=some out:=(Tree.J6 t gs).symm.trans h;exact Ep hk (by simp only [aJ.den,aj hi,h,aj ho])
theorem aA {Ds:List aJ} {k n:Nat} {t:Tree} {gs out:List GV} (hk:Ds[k]? = some (.tree n t)) (hn:gs.length=n) (h:t.go (wI Ds).lim gs.length (Sl gs)=some out):(wI Ds).lim k gs=some out:=by
 have h:t.den (wI Ds).lim gs=some out:=(Tree.J6 t gs).symm.trans h;exact Ep hk (by simp only [aJ.den,aj hn,h])
theorem KY {Ds:List aJ} {k:Nat} {f:List GV->Option (List GV)} {gs out:List GV} (hk:Ds[k]? = some (.wW f)) (h:f gs=some out):(wI Ds).lim k gs=some out:=
 Ep hk h
theorem aiB {gs:List GV} (h:hasArgs [] gs):gs=[]:=by simpa only [hasArgs] using h
theorem aiA {l:List bI} {r:List (Bool×List bI)} {gs:List GV} (h:hasArgs ((true,l)::r) gs):∃cs gs',gs=.g cs::gs'/\bI.iC l cs/\hasArgs r gs':=by
 simp only [hasArgs] at h;obtain ⟨g,gs',rfl,h1,h2,h3⟩:=h;cases g<;>simp [GV.scalar] at h2
 exact ⟨_,_,rfl,h1,h3⟩
theorem iL {t:bI} {l:List bI} {gs:List GV} (h:bI.iC (t::l) gs):∃g r,gs=g::r/\t.has g/\bI.iC l r:=by simpa only [bI.iC] using h
theorem Ko {gs:List GV} (h:bI.iC [] gs):gs=[]:=by simpa only [bI.iC] using h
theorem qp {g:GV} (h:(bI.int .u64).has g):∃n,g=.i .u64 n/\0<=n/\n < 18446744073709551616:=by
 simp only [bI.has] at h;obtain ⟨n,rfl,h1,h2⟩:=h;exact ⟨n,rfl,by simpa [IntKind.min,IntKind.signed] using h1,by simp [IntKind.max,IntKind.signed,IntKind.bits] at h2;omega⟩
theorem Cc {g:GV} (h:bI.str.has g):∃s,g=.s s/\s.length<=reachBytes:=by simpa only [bI.has] using h
theorem OO {b:Bool} {e:List bI} {g:GV} (h:(bI.list b e).has g):∃xs,g=.l xs/\xs.length<=reachBytes/\∀x∈xs,bI.iC e x.cells/\x.scalar = !b:=by simpa only [bI.has] using h
theorem KF {α:Type} {f:α->GV} {p:α->Prop}:∀ {xs:List GV},(∀x∈xs,∃r,p r/\x=f r)->∃rs:List α,(∀r∈rs,p r)/\xs=rs.map f
 | [],_=>⟨[],by simp,rfl⟩
 | x::xs,h=>by
  obtain ⟨r,h1,h2⟩:=h x (by simp);obtain ⟨rs,h3,h4⟩:=KF (xs:=xs) λy hy=>h y (by simp [hy]);refine ⟨r::rs,λq hq=>?_,by rw [h2,h4];rfl⟩;rcases bZ.1 hq with rfl | hq
  ·exact h1
  ·exact h3 q hq
theorem wrap64 {n:Int} (h0 : -9223372036854775808<=n) (h1:n<=9223372036854775807):IntKind.i64.wrap n=n:=by
 have:IntKind.i64.wrap n=if n % 18446744073709551616>=9223372036854775808 then n % 18446744073709551616 - 18446744073709551616 else n % 18446744073709551616:=by
  simp [IntKind.wrap,IntKind.signed,IntKind.bits]
 rw [this];split<;>omega
theorem kC {n:Int} (h0:0<=n) (h1:n < 18446744073709551616):IntKind.u64.wrap n=n:=by
 have:IntKind.u64.wrap n=n % 18446744073709551616:=by
  simp [IntKind.wrap,IntKind.signed,IntKind.bits]
 rw [this];omega
end Go.aN
