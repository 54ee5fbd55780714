/- Plain laws over trees: values of one's own as ground values; how a tree is gone through. -/
import Derived.Test.YtcpfjpcdcafjmaaGreatDoorAbsJ
namespace Go.aN
set_option linter.unusedSimpArgs false
theorem DF {Ds:List aI} {k:Nat} {d:aI} {gs out:List GV} (hk:Ds[k]? = some d) (h:d.den (vk Ds).lim gs=some out):(vk Ds).lim k gs=some out:=gu.ah2 hk h
def upd (val:Nat->Option GV) (k:Nat) (g:GV):Nat->Option GV:=λn=>if n=k then some g else val n
def Qi (gs:List GV):Nat->Option GV:=λn=>gs[n]?
@[simp] theorem aoS {gs:List GV} {n:Nat}:Qi gs n=gs[n]?:=rfl
@[simp] theorem upd_same {val:Nat->Option GV} {k:Nat} {g:GV}:upd val k g k=some g:=ak rfl
@[simp] theorem upd_ne {val:Nat->Option GV} {k n:Nat} {g:GV} (h:n≠k):upd val k g n=val n:=ah h
def Tree.go (I:fP):Tree->Nat->(Nat->Option GV)->Option (List GV)
 | .step nd t,k,val=>match nd.den I val with
   | some g=>t.go I (k+1) (upd val k g)
   | none=>none
 | .ite n t e,k,val=>match val n with
   | some (.b true)=>t.go I k val
   | some (.b false)=>e.go I k val
   | _=>none
 | .ret l,_,val=>valsOf val l
 | .tail f l,_,val=>match valsOf val l with
   | some gs=>I f gs
   | none=>none
 | .dead,_,_=>none
theorem Tree.I8 {I:fP}:∀ (t:Tree) (env:List GV),t.go I env.length (λn=>env[n]?)=t.den I env
 | .step nd t,env=>by
   simp only [Tree.go,Tree.den];cases nd.den I λn=>env[n]? with
   | none=>rfl
   | some g=>
     simp only;rw [<- Tree.I8 t (env++[g])];congr 1
     ·simp
     ·funext n
      unfold upd;split
      ·next h=>subst h;simp
      ·next h=>
       show env[n]? = (env++[g])[n]?
       rcases uY n env.length with hl | hl
       ·rw [lg hl]
       ·rw [rV hl,Aw (l:=env) hl,Aw]
        simp;omega
 | .ite n t e,env=>by simp only [Tree.go,Tree.den,Tree.I8 t env,Tree.I8 e env];rfl
 | .ret l,env=>rfl
 | .tail f l,env=>rfl
 | .dead,env=>rfl
def XG (o:Option GV) (I:fP) (t:Tree) (k:Nat) (val:Nat->Option GV):Option (List GV):=match o with
 | some g=>t.go I (k+1) (upd val k g)
 | none=>none
def Yk (o:Option GV) (I:fP) (t e:Tree) (k:Nat) (val:Nat->Option GV):Option (List GV):=match o with
 | some (.b true)=>t.go I k val
 | some (.b false)=>e.go I k val
 | _=>none
section
variable {I:fP} {k:Nat} {val:Nat->Option GV}
@[simp] theorem adT {g:GV} {t:Tree}:XG (some g) I t k val=t.go I (k+1) (upd val k g):=rfl
@[simp] theorem apx {c:Bool} {t e:Tree}:Yk (some (.b c)) I t e k val=if c=true then t.go I k val else e.go I k val:=by cases c<;>rfl
@[simp] theorem ank {nd:Nd} {t:Tree}:(Tree.step nd t).go I k val=XG (nd.den I val) I t k val:=rfl
@[simp] theorem ard {n:Nat} {t e:Tree}:(Tree.ite n t e).go I k val=Yk (val n) I t e k val:=rfl
@[simp] theorem arf {l:List Nat}:(Tree.ret l).go I k val=valsOf val l:=rfl
@[simp] theorem arb:Tree.dead.go I k val=none:=rfl
@[simp] theorem arh {f:Nat} {l:List Nat}:(Tree.tail f l).go I k val=(valsOf val l).bind (I f):=by
 simp only [Tree.go];cases valsOf val l<;>rfl
end
@[simp] theorem aiI {I:fP} {f j:Nat} {l:List Nat} {val:Nat->Option GV}:(Nd.call f l j).den I val=(valsOf val l).bind λgs=>(I f gs).bind λr=>r[j]?:=by
 simp only [Nd.den];cases valsOf val l with
 | none=>rfl
 | some gs=>simp only [zi];cases I f gs<;>rfl
@[simp] theorem arl {val:Nat->Option GV}:valsOf val []=some []:=rfl
@[simp] theorem adg {val:Nat->Option GV} {n:Nat} {l:List Nat}:valsOf val (n::l)=(val n).bind λg=>(valsOf val l).bind λr=>some (g::r):=by
 simp only [valsOf];cases val n<;>cases valsOf val l<;>rfl
def fF (op:BinOp) (x y:Option GV):Option GV:=match x,y with
 | some a,some b=>fM op a b
 | _,_=>none
def Ql (op:BinOp) (x y:Option GV):Option GV:=match x,y with
 | some a,some b=>Lh op a b
 | _,_=>none
def Ij (op:BinOp) (ks:List Nat) (x y:Option GV):Option GV:=match x,y with
 | some a,some b=>EN op ks a b
 | _,_=>none
def VZ (op:UnOp) (x:Option GV):Option GV:=match x with
 | some a=>Pj op a
 | none=>none
section
variable {I:fP} {val:Nat->Option GV}
@[simp] theorem aqw {k:IntKind} {n:Int}:(Nd.ci k n).den I val=some (.i k n):=rfl
@[simp] theorem aqu {x:Bool}:(Nd.cb x).den I val=some (.b x):=rfl
@[simp] theorem aqy {x:List UInt8}:(Nd.cs x).den I val=some (.s x):=rfl
@[simp] theorem aqp {op:BinOp} {a b:Nat}:(Nd.bin op a b).den I val=fF op (val a) (val b):=rfl
@[simp] theorem aqr {op:BinOp} {a b:Nat}:(Nd.CQ op a b).den I val=Ql op (val a) (val b):=rfl
@[simp] theorem aqs {op:BinOp} {ks:List Nat} {a b:Nat}:(Nd.uq op ks a b).den I val=Ij op ks (val a) (val b):=rfl
@[simp] theorem aqQ {op:UnOp} {a:Nat}:(Nd.un op a).den I val=VZ op (val a):=rfl
def Jq (big:Bool) (x y:Option GV):Option GV:=match x,y with
 | some (.i k x),some (.i k' y)=>if k=k' then some (.i k (if big then (if x < y then y else x) else (if y < x then y else x))) else none
 | _,_=>none
@[simp] theorem aqH {g:Bool} {a b:Nat}:(Nd.mm g a b).den I val=Jq g (val a) (val b):=rfl
@[simp] theorem aql {k:IntKind} {x y:Int}:Jq true (some (.i k x)) (some (.i k y))=some (.i k (if x < y then y else x)):=by simp [Jq]
@[simp] theorem aqk {k:IntKind} {x y:Int}:Jq false (some (.i k x)) (some (.i k y))=some (.i k (if y < x then y else x)):=by simp [Jq]
def Ym (k:IntKind) (x:Option GV):Option GV:=match x with
 | some (.i _ n)=>some (.i k (k.wrap n))
 | _=>none
@[simp] theorem aqx {k:IntKind} {a:Nat}:(Nd.conv k a).den I val=Ym k (val a):=rfl
@[simp] theorem apy {k k':IntKind} {n:Int}:Ym k (some (.i k' n))=some (.i k (k.wrap n)):=rfl
def len1 (x:Option GV):Option GV:=match x with
 | some (.l xs)=>some (.i .i64 xs.length)
 | _=>none
@[simp] theorem aqB {a:Nat}:(Nd.len a).den I val=len1 (val a):=rfl
@[simp] theorem aqg {xs:List GV}:len1 (some (.l xs))=some (.i .i64 xs.length):=rfl
def acA (x:Option GV):Option GV:=match x with
 | some (.s x)=>some (.i .i64 x.length)
 | _=>none
@[simp] theorem aqN {a:Nat}:(Nd.slen a).den I val=acA (val a):=rfl
@[simp] theorem aq7 {x:List UInt8}:acA (some (.s x))=some (.i .i64 x.length):=rfl
def VE (x i:Option GV):Option GV:=match x,i with
 | some (.s x),some (.i _ k)=>if 0<=k then match x[k.toNat]? with
   | some c=>some (.i .u8 c.toNat)
   | none=>none
   else none
 | _,_=>none
@[simp] theorem aqM {a i:Nat}:(Nd.nC a i).den I val=VE (val a) (val i):=rfl
@[simp] theorem aq6 {x:List UInt8} {kk:IntKind} {k:Int}:VE (some (.s x)) (some (.i kk k))=if 0<=k then (x[k.toNat]?).bind λc=>some (.i .u8 c.toNat) else none:=by
 simp only [VE];split
 ·cases x[k.toNat]?<;>rfl
 ·rfl
def acF (x lo hi:Option GV):Option GV:=match x,lo,hi with
 | some (.s x),some (.i _ l),some (.i _ h)=>if 0<=l/\l<=h/\h<=x.length then some (.s ((x.take h.toNat).drop l.toNat)) else none
 | _,_,_=>none
@[simp] theorem aqO {a l h:Nat}:(Nd.jc a l h).den I val=acF (val a) (val l) (val h):=rfl
def aa8 (z m k:Option GV):Option GV:=match z,m,k with
 | some d,some (.l xs),some g=>some ((jE g xs).getD d)
 | _,_,_=>none
def aa9 (m k:Option GV):Option GV:=match m,k with
 | some (.l xs),some g=>some (.b (jE g xs).isSome)
 | _,_=>none
def abb (m k v:Option GV):Option GV:=match m,k,v with
 | some (.l xs),some g,some u=>some (.l (oL g u xs))
 | _,_,_=>none
@[simp] theorem aqD {z m k:Nat}:(Nd.yM z m k).den I val=aa8 (val z) (val m) (val k):=rfl
@[simp] theorem aqE {m k:Nat}:(Nd.BG m k).den I val=aa9 (val m) (val k):=rfl
@[simp] theorem aqI {m k v:Nat}:(Nd.yN m k v).den I val=abb (val m) (val k) (val v):=rfl
@[simp] theorem aqi {d g:GV} {xs:List GV}:aa8 (some d) (some (.l xs)) (some g)=some ((jE g xs).getD d):=rfl
@[simp] theorem aqj {g:GV} {xs:List GV}:aa9 (some (.l xs)) (some g)=some (.b (jE g xs).isSome):=rfl
@[simp] theorem aqm {g u:GV} {xs:List GV}:abb (some (.l xs)) (some g) (some u)=some (.l (oL g u xs)):=rfl
@[simp] theorem ara {x:List UInt8} {k k':IntKind} {l h:Int}:acF (some (.s x)) (some (.i k l)) (some (.i k' h))=if 0<=l/\l<=h/\h<=x.length then some (.s ((x.take h.toNat).drop l.toNat)) else none:=rfl
def aaU (size:Nat) (x lo hi:Option GV):Option GV:=match x,lo,hi with
 | some (.l xs),some (.i _ l),some (.i _ h)=>if 0<=l/\l<=h/\h<=xs.length/\(xs.all λx=>Nat.beq x.cells.length size)=true then some (.l ((xs.take h.toNat).drop l.toNat)) else none
 | _,_,_=>none
@[simp] theorem aqC {s a l h:Nat}:(Nd.wM s a l h).den I val=aaU s (val a) (val l) (val h):=rfl
@[simp] theorem aqh {s:Nat} {xs:List GV} {k k':IntKind} {l h:Int}:aaU s (some (.l xs)) (some (.i k l)) (some (.i k' h))=if 0<=l/\l<=h/\h<=xs.length/\(xs.all λx=>Nat.beq x.cells.length s)=true then some (.l ((xs.take h.toNat).drop l.toNat)) else none:=rfl
def aah (x i:Option GV):Option GV:=match x,i with
 | some (.l xs),some (.i _ k)=>if 0<=k/\k < xs.length then some (.i .i64 k) else none
 | _,_=>none
@[simp] theorem aqz {a i:Nat}:(Nd.idx a i).den I val=aah (val a) (val i):=rfl
@[simp] theorem aqf {xs:List GV} {kk:IntKind} {k:Int}:aah (some (.l xs)) (some (.i kk k))=if 0<=k/\k < xs.length then some (.i .i64 k) else none:=rfl
def at2 (size:Nat) (x i:Option GV):Option GV:=match x,i with
 | some (.l xs),some (.i _ k)=>if 0<=k then match xs[k.toNat]? with
   | some x=>if x.cells.length=size then some x else none
   | none=>none
   else none
 | _,_=>none
@[simp] theorem aqo {s a i:Nat}:(Nd.at s a i).den I val=at2 s (val a) (val i):=rfl
@[simp] theorem aoT {s:Nat} {xs:List GV} {kk:IntKind} {k:Int}:at2 s (some (.l xs)) (some (.i kk k))=if 0<=k then (xs[k.toNat]?).bind λx=>if x.cells.length=s then some x else none else none:=by
 simp only [at2];split
 ·cases xs[k.toNat]?<;>rfl
 ·rfl
def cell1 (off:Nat) (x:Option GV):Option GV:=match x with
 | some g=>match g.cells[off]? with
   | some c=>if c.scalar then some c else none
   | none=>none
 | none=>none
@[simp] theorem aqv {o a:Nat}:(Nd.cell o a).den I val=cell1 o (val a):=rfl
@[simp] theorem apr {o:Nat} {g:GV}:cell1 o (some g)=(g.cells[o]?).bind λc=>if c.scalar=true then some c else none:=by
 simp only [cell1];cases g.cells[o]?<;>rfl
@[simp] theorem aqF {l:List Nat}:(Nd.mk l).den I val=(valsOf val l).bind λgs=>if gs.all GV.scalar=true then some (.g gs) else none:=by
 simp only [Nd.den];cases valsOf val l<;>rfl
@[simp] theorem aqG {l:List Nat}:(Nd.ml l).den I val=(valsOf val l).bind λgs=>some (.l gs):=by
 simp only [Nd.den];cases valsOf val l<;>rfl
def Xv (size bs:Nat) (x y:Option GV):Option GV:=match x,y with
 | some (.l xs),some (.l ys)=>if ys.all (GV.fV size)=true/\2 * (xs.length+ys.length) * bs<=2 ^ 48/\xs.length+ys.length<=2 ^ 48 then some (.l (xs++ys)) else none
 | _,_=>none
@[simp] theorem aqn {z s a b:Nat}:(Nd.app z s a b).den I val=Xv z s (val a) (val b):=rfl
@[simp] theorem aoR {z s:Nat} {xs ys:List GV}:Xv z s (some (.l xs)) (some (.l ys))=if ys.all (GV.fV z)=true/\2 * (xs.length+ys.length) * s<=2 ^ 48/\xs.length+ys.length<=2 ^ 48 then some (.l (xs++ys)) else none:=rfl
def V5 (size off:Nat) (x i:Option GV) (vs:Option (List GV)):Option GV:=match x,i,vs with
 | some (.l xs),some (.i _ k),some gs=>if 0<=k/\gs.all GV.scalar=true then match xs[k.toNat]? with
   | some x=>if x.cells.length=size then (x.put off gs).map λy=>.l (xs.set k.toNat y) else none
   | none=>none
   else none
 | _,_,_=>none
@[simp] theorem aqR {s o a i:Nat} {vs:List Nat}:(Nd.upd s o a i vs).den I val=V5 s o (val a) (val i) (valsOf val vs):=rfl
@[simp] theorem ark {s o:Nat} {xs:List GV} {kk:IntKind} {k:Int} {gs:List GV}:V5 s o (some (.l xs)) (some (.i kk k)) (some gs)=if 0<=k/\gs.all GV.scalar=true then (xs[k.toNat]?).bind λx=>if x.cells.length=s then (x.put o gs).map λy=>.l (xs.set k.toNat y) else none else none:=by
 simp only [V5];split
 ·cases xs[k.toNat]?<;>rfl
 ·rfl
@[simp] theorem aqW {k:IntKind} {n:Int} {v:GV}:(GV.i k n).put 0 [v]=some v:=rfl
def abW (size Qm:Nat) (z l c:Option GV):Option GV:=match z,l,c with
 | some x,some (.i _ n),some (.i _ m)=>if 0<=n/\n<=m/\Qm * m<=2 ^ 48/\m<=2 ^ 60/\x.fV size=true then some (.l (List.replicate n.toNat x)) else none
 | _,_,_=>none
@[simp] theorem aqJ {s b z l c:Nat}:(Nd.rep s b z l c).den I val=abW s b (val z) (val l) (val c):=rfl
@[simp] theorem aqX {s b:Nat} {x:GV} {k k':IntKind} {n m:Int}:abW s b (some x) (some (.i k n)) (some (.i k' m))=if 0<=n/\n<=m/\b * m<=2 ^ 48/\m<=2 ^ 60/\x.fV s=true then some (.l (List.replicate n.toNat x)) else none:=by
 cases x<;>rfl
@[simp] theorem aqt {a:Nat}:(Nd.bytes a).den I val=(val a).bind λg=>match g with | .s x=>some (.l (jf x)) | _=>none:=by
 simp only [Nd.den];cases val a with
 | none=>rfl
 | some g=>cases g<;>rfl
@[simp] theorem aqP {a:Nat}:(Nd.str a).den I val=(val a).bind λg=>match g with | .l xs=>if xs.length<=2 ^ 48 then (l9 xs).map .s else none | _=>none:=by
 simp only [Nd.den];cases val a with
 | none=>rfl
 | some g=>cases g<;>rfl
@[simp] theorem aqK {a b:Nat}:(Nd.same a b).den I val=(val a).bind λg=>(val b).bind λh=>match g,h with | .l xs,.l ys=>if ys.length=xs.length then some (.l ys) else none | _,_=>none:=by
 simp only [Nd.den];cases val a with
 | none=>rfl
 | some g=>cases val b with
   | none=>cases g<;>rfl
   | some h=>cases g<;>cases h<;>rfl
@[simp] theorem aqA {a j:Nat}:(Nd.yJ a j).den I val=(val a).bind λg=>match g with | .i _ m=>some (.b (decide (m=(j:Int)))) | _=>none:=by
 simp only [Nd.den];cases val a with
 | none=>rfl
 | some g=>cases g<;>rfl
@[simp] theorem aqL {a:Nat}:(Nd.Ee a).den I val=(val a).bind λg=>match g with | .s x=>some (.s x) | _=>none:=by
 simp only [Nd.den];cases val a with
 | none=>rfl
 | some g=>cases g<;>rfl
end
section
variable {k:IntKind} {a b:Int}
@[simp] theorem aoU:fF .add (some (.i k a)) (some (.i k b))=some (.i k (k.wrap (a+b))):=by simp [fF,fM,fO]
@[simp] theorem ape:fF .sub (some (.i k a)) (some (.i k b))=some (.i k (k.wrap (a - b))):=by simp [fF,fM,fO]
@[simp] theorem ao1:fF .mul (some (.i k a)) (some (.i k b))=some (.i k (k.wrap (a * b))):=by simp [fF,fM,fO]
@[simp] theorem ao4:fF .quo (some (.i k a)) (some (.i k b))=if b=0 then none else some (.i k (k.wrap (a.tdiv b))):=by simp [fF,fM,fO]
@[simp] theorem ao5:fF .rem (some (.i k a)) (some (.i k b))=if b=0 then none else some (.i k (a.tmod b)):=by simp [fF,fM,fO]
@[simp] theorem aoW:fF .eql (some (.i k a)) (some (.i k b))=some (.b (decide (a=b))):=by
 simp only [fF,fM,fO,if_true];rw [show (a==b)=decide (a=b) from rfl]
@[simp] theorem ao2:fF .neq (some (.i k a)) (some (.i k b))=some (.b (decide (a≠b))):=by
 simp only [fF,fM,fO,if_true,bne];rw [show (a==b)=decide (a=b) from rfl,<- decide_not]
@[simp] theorem ao0:fF .lss (some (.i k a)) (some (.i k b))=some (.b (decide (a < b))):=by simp [fF,fM,fO]
@[simp] theorem aoZ:fF .leq (some (.i k a)) (some (.i k b))=some (.b (decide (a<=b))):=by simp [fF,fM,fO]
@[simp] theorem aoY:fF .gtr (some (.i k a)) (some (.i k b))=some (.b (decide (b < a))):=by simp [fF,fM,fO]
@[simp] theorem aoX:fF .geq (some (.i k a)) (some (.i k b))=some (.b (decide (b<=a))):=by simp [fF,fM,fO]
@[simp] theorem aoV:fF .and (some (.i k a)) (some (.i k b))=fO .and k a b:=by simp [fF,fM]
@[simp] theorem ao3:fF .or (some (.i k a)) (some (.i k b))=fO .or k a b:=by simp [fF,fM]
@[simp] theorem apf:fF .xor (some (.i k a)) (some (.i k b))=fO .xor k a b:=by simp [fF,fM]
@[simp] theorem ao9 {k':IntKind}:fF .shl (some (.i k a)) (some (.i k' b))=pI .shl k a b:=rfl
@[simp] theorem apa {k':IntKind}:fF .shr (some (.i k a)) (some (.i k' b))=pI .shr k a b:=rfl
end
section
variable {a b:List UInt8}
@[simp] theorem Qk:fF .add (some (.s a)) (some (.s b))=if ((a.length+b.length:Nat):Int)<=9223372036854775807 then some (.s (a++b)) else none:=by
 simp only [fF,fM,tX];rfl
@[simp] theorem ao6:fF .eql (some (.s a)) (some (.s b))=some (.b (decide (a=b))):=by
 simp only [fF,fM,tX];congr 2;rw [qp];simp
@[simp] theorem apd:fF .neq (some (.s a)) (some (.s b))=some (.b (decide (a≠b))):=by
 simp only [fF,fM,tX];congr 2;rw [qp];simp
@[simp] theorem apc:fF .lss (some (.s a)) (some (.s b))=some (.b (Op.bytesLess a b)):=rfl
@[simp] theorem ao7:fF .geq (some (.s a)) (some (.s b))=some (.b (!(Op.bytesLess a b))):=rfl
@[simp] theorem apb:fF .leq (some (.s a)) (some (.s b))=some (.b (Op.bytesLess a b || a==b)):=rfl
@[simp] theorem ao8:fF .gtr (some (.s a)) (some (.s b))=some (.b (!(Op.bytesLess a b || a==b))):=rfl
end
@[simp] theorem apg {a b:Bool}:Ql .eql (some (.b a)) (some (.b b))=some (.b (a==b)):=rfl
@[simp] theorem aph {a b:Bool}:Ql .neq (some (.b a)) (some (.b b))=some (.b (!(a==b))):=rfl
@[simp] theorem apj {ks:List Nat} {a b:List GV}:Ij .eql ks (some (.g a)) (some (.g b))=(lD ks a b).bind λr=>some (.b r):=by
 simp only [Ij,EN];cases lD ks a b<;>rfl
@[simp] theorem apk {ks:List Nat} {a b:List GV}:Ij .neq ks (some (.g a)) (some (.g b))=(lD ks a b).bind λr=>some (.b (!r)):=by
 simp only [Ij,EN];cases lD ks a b<;>rfl
@[simp] theorem arj {a:Bool}:VZ .not (some (.b a))=some (.b (!a)):=rfl
@[simp] theorem ari {k:IntKind} {a:Int}:VZ .neg (some (.i k a))=some (.i k (k.wrap (0 - a))):=rfl
@[simp] theorem Qv {cs:List GV}:(GV.g cs).cells=cs:=rfl
@[simp] theorem apt {k:IntKind} {n:Int}:(GV.i k n).cells=[.i k n]:=rfl
@[simp] theorem aps {x:Bool}:(GV.b x).cells=[.b x]:=rfl
@[simp] theorem apv {x:List UInt8}:(GV.s x).cells=[.s x]:=rfl
@[simp] theorem apu {x:List GV}:(GV.l x).cells=[.l x]:=rfl
@[simp] theorem aq2 {cs:List GV}:(GV.g cs).scalar=false:=rfl
@[simp] theorem aq3 {k:IntKind} {n:Int}:(GV.i k n).scalar=true:=rfl
@[simp] theorem aq1 {x:Bool}:(GV.b x).scalar=true:=rfl
@[simp] theorem aq5 {x:List UInt8}:(GV.s x).scalar=true:=rfl
@[simp] theorem aq4 {x:List GV}:(GV.l x).scalar=true:=rfl
theorem aA {Ds:List aI} {k:Nat} {si so:List ou} {t:Tree} {gs out:List GV} (hk:Ds[k]? = some (.fn si so t)) (hi:nY si gs=true) (h:t.go (vk Ds).lim gs.length (Qi gs)=some out) (ho:nY so out=true):(vk Ds).lim k gs=some out:=by
 have h:t.den (vk Ds).lim gs=some out:=(Tree.I8 t gs).symm.trans h;exact DF hk (by simp only [aI.den,ak hi,h,ak ho])
theorem aC {Ds:List aI} {k n:Nat} {t:Tree} {gs out:List GV} (hk:Ds[k]? = some (.tree n t)) (hn:gs.length=n) (h:t.go (vk Ds).lim gs.length (Qi gs)=some out):(vk Ds).lim k gs=some out:=by
 have h:t.den (vk Ds).lim gs=some out:=(Tree.I8 t gs).symm.trans h;exact DF hk (by simp only [aI.den,ak hn,h])
theorem Oj {Ds:List aI} {k:Nat} {f:List GV->Option (List GV)} {gs out:List GV} (hk:Ds[k]? = some (.vN f)) (h:f gs=some out):(vk Ds).lim k gs=some out:=
 DF hk h
theorem agY {gs:List GV} (h:hasArgs [] gs):gs=[]:=by simpa only [hasArgs] using h
theorem ZU {l:List bF} {r:List (Bool×List bF)} {gs:List GV} (h:hasArgs ((true,l)::r) gs):∃cs gs',gs=.g cs::gs'/\bF.gW l cs/\hasArgs r gs':=by
 simp only [hasArgs] at h;obtain ⟨g,gs',rfl,h1,h2,h3⟩:=h;cases g<;>simp [GV.scalar] at h2
 exact ⟨_,_,rfl,h1,h3⟩
theorem gX {t:bF} {l:List bF} {gs:List GV} (h:bF.gW (t::l) gs):∃g r,gs=g::r/\t.has g/\bF.gW l r:=by simpa only [bF.gW] using h
theorem FD {gs:List GV} (h:bF.gW [] gs):gs=[]:=by simpa only [bF.gW] using h
theorem agZ {t:bF} {r:List (Bool×List bF)} {gs:List GV} (h:hasArgs ((false,[t])::r) gs):∃g gs',gs=g::gs'/\t.has g/\hasArgs r gs':=by
 simp only [hasArgs] at h;obtain ⟨g,gs',rfl,h1,h2,h3⟩:=h;refine ⟨_,_,rfl, ?_,h3⟩;obtain ⟨g0,r0,e,h4,h5⟩:=gX h1;cases g<;>simp [GV.scalar] at h2<;>simp only [GV.cells,BU] at e<;>rw [e.1]<;>exact h4
theorem pz {g:GV} (h:(bF.int .u64).has g):∃n,g=.i .u64 n/\0<=n/\n < 18446744073709551616:=by
 simp only [bF.has] at h;obtain ⟨n,rfl,h1,h2⟩:=h;exact ⟨n,rfl,by simpa [IntKind.min,IntKind.signed] using h1,by simp [IntKind.max,IntKind.signed,IntKind.bits] at h2;omega⟩
theorem zL {g:GV} (h:bF.str.has g):∃s,g=.s s/\s.length<=reachBytes:=by simpa only [bF.has] using h
theorem Jd {b:Bool} {e:List bF} {g:GV} (h:(bF.list b e).has g):∃xs,g=.l xs/\xs.length<=reachBytes/\∀x∈xs,bF.gW e x.cells/\x.scalar = !b:=by simpa only [bF.has] using h
theorem FT {α:Type} {f:α->GV} {p:α->Prop}:∀ {xs:List GV},(∀x∈xs,∃r,p r/\x=f r)->∃rs:List α,(∀r∈rs,p r)/\xs=rs.map f
 | [],_=>⟨[],by simp,rfl⟩
 | x::xs,h=>by
   obtain ⟨r,h1,h2⟩:=h x (by simp);obtain ⟨rs,h3,h4⟩:=FT (xs:=xs) λy hy=>h y (by simp [hy]);refine ⟨r::rs,λq hq=>?_,by rw [h2,h4];rfl⟩;rcases dP.1 hq with rfl | hq
   ·exact h1
   ·exact h3 q hq
theorem wrap64 {n:Int} (h0 : -9223372036854775808<=n) (h1:n<=9223372036854775807):IntKind.i64.wrap n=n:=by
 have:IntKind.i64.wrap n=if n % 18446744073709551616>=9223372036854775808 then n % 18446744073709551616 - 18446744073709551616 else n % 18446744073709551616:=by
  simp [IntKind.wrap,IntKind.signed,IntKind.bits]
 rw [this];split<;>omega
theorem eH {n:Int} (h0:0<=n) (h1:n < 18446744073709551616):IntKind.u64.wrap n=n:=by
 have:IntKind.u64.wrap n=n % 18446744073709551616:=by
  simp [IntKind.wrap,IntKind.signed,IntKind.bits]
 rw [this];omega
end Go.aN
