/- Plain laws over trees: values of one's own as ground values; how a tree is gone through. -/
import Derived.Test.YtogfeeabnklegaaGreatDoorAbsJ
set_option linter.all false
namespace Go.aP
def KD{Ds:Wc}{k:Nat}{d:aH}{gs c:Q1}(e:Ds[k]? =some d)(h:d.den (wE Ds).lim gs=some c):(wE Ds).lim k gs=some c:=jl.axa e h
def upd(val:Wb)(k:Nat)(g:GV):Nat->Option GV:=λn=>if n=k then some g else val n
def Qp(gs:Q1):Nat->Option GV:=λn=>gs[n]?
@[simp] theorem aGf{gs:Q1}{n:Nat}:Qp gs n=gs[n]?:=rfl
@[simp] theorem upd_same{val:Wb}{k:Nat}{g:GV}:upd val k g k=some g:=au rfl
@[simp] theorem upd_ne{val:Wb}{k n:Nat}{g:GV}(h:n≠k):upd val k g n=val n:=aj h
def Tree.go(I:ji):Tree->Nat->(Wb)->Option Q1
 |.step nd t,k,val=>match nd.den I val with
  |some g=>t.go I (k+1) (upd val k g)
  |none=>none
 |.ite n t e,k,val=>match val n with
  |some (.b true)=>t.go I k val
  |some (.b false)=>e.go I k val
  |_=>none
 |.ret l,_,val=>valsOf val l
 |.tail f l,_,val=>match valsOf val l with
  |some gs=>I f gs
  |none=>none
 |.dead,_,_=>none
def Tree.Q9{I:ji}:∀(t:Tree)(c:Q1),t.go I c.length (λn=>c[n]?)=t.den I c
 |.step nd t,c=>by
  simp only[Tree.go,Tree.den];cases nd.den I λn=>c[n]? with
  |none=>rfl
  |some g=>
   simp only;rw[<-Tree.Q9 t (c++[g])];congr 1
   ·simp
   ·funext n;unfold upd;split
    ·next h=>subst h;simp
    ·next h=>
     show c[n]? =(c++[g])[n]?
     rcases zI n c.length with d|d
     ·rw[pG d]
     ·rw[yB d,xA (l:=c) d,xA];simp;omega
 |.ite n t e,c=>by simp only[Tree.go,Tree.den,Tree.Q9 t c,Tree.Q9 e c];rfl
 |.ret l,c=>rfl
 |.tail f l,c=>rfl
 |.dead,c=>rfl
def afG(o:W3)(I:ji)(t:Tree)(k:Nat)(val:Wb):Wr:=match o with
 |some g=>t.go I (k+1) (upd val k g)
 |none=>none
def agy(o:W3)(I:ji)(t e:Tree)(k:Nat)(val:Wb):Wr:=match o with
 |some (.b true)=>t.go I k val
 |some (.b false)=>e.go I k val
 |_=>none
section
variable{I:ji}{k:Nat}{val:Wb}
@[simp] theorem aoh{g:GV}{t:Tree}:afG (some g) I t k val=t.go I (k+1) (upd val k g):=rfl
@[simp] theorem aGR{c:Bool}{t e:Tree}:agy (some (.b c)) I t e k val=if c=true then t.go I k val else e.go I k val:=by cases c<;>rfl
@[simp] theorem aEX{nd:Nd}{t:Tree}:(Tree.step nd t).go I k val=afG (nd.den I val) I t k val:=rfl
@[simp] theorem aIB{n:Nat}{t e:Tree}:(Tree.ite n t e).go I k val=agy (val n) I t e k val:=rfl
@[simp] theorem aIC{l:Q2}:(Tree.ret l).go I k val=valsOf val l:=rfl
@[simp] theorem aIA:Tree.dead.go I k val=none:=rfl
@[simp] theorem aID{f:Nat}{l:Q2}:(Tree.tail f l).go I k val=(valsOf val l).bind (I f):=by simp only[Tree.go];cases valsOf val l<;>rfl
end
@[simp] theorem ayq{I:ji}{f j:Nat}{l:Q2}{val:Wb}:(Nd.call f l j).den I val=(valsOf val l).bind λgs=>(I f gs).bind λr=>r[j]?:=by
 simp only[Nd.den];cases valsOf val l with
 |none=>rfl
 |some gs=>simp only[BD];cases I f gs<;>rfl
@[simp] theorem aIG{val:Wb}:valsOf val []=some []:=rfl
@[simp] theorem amX{val:Wb}{n:Nat}{l:Q2}:valsOf val (n::l)=(val n).bind λg=>(valsOf val l).bind λr=>some (g::r):=by simp only[valsOf];cases val n<;>cases valsOf val l<;>rfl
def jm(c:BinOp)(x y:W3):W3:=match x,y with
 |some a,some b=>jd c a b
 |_,_=>none
def ZR(c:BinOp)(x y:W3):W3:=match x,y with
 |some a,some b=>Va c a b
 |_,_=>none
def Qv(c:BinOp)(d:Q2)(x y:W3):W3:=match x,y with
 |some a,some b=>Nv c d a b
 |_,_=>none
def YU(c:UnOp)(x:W3):W3:=match x with
 |some a=>YV c a
 |none=>none
section
variable{I:ji}{val:Wb}
@[simp] theorem aHT{k:IntKind}{n:Int}:(Nd.ci k n).den I val=some (.i k n):=rfl
@[simp] theorem aHR{x:Bool}:(Nd.cb x).den I val=some (.b x):=rfl
@[simp] theorem aHV{x:Q0}:(Nd.cs x).den I val=some (.s x):=rfl
@[simp] theorem aHN{c:BinOp}{a b:Nat}:(Nd.bin c a b).den I val=jm c (val a) (val b):=rfl
@[simp] theorem aHO{c:BinOp}{a b:Nat}:(Nd.G7 c a b).den I val=ZR c (val a) (val b):=rfl
@[simp] theorem aHP{c:BinOp}{d:Q2}{a b:Nat}:(Nd.G8 c d a b).den I val=Qv c d (val a) (val b):=rfl
@[simp] theorem aId{c:UnOp}{a:Nat}:(Nd.un c a).den I val=YU c (val a):=rfl
def Sj(c:Bool)(x y:W3):W3:=match x,y with
 |some (.i k x),some (.i d y)=>if k=d then some (.i k (if c then(if x<y then y else x)else(if y<x then y else x)))else none
 |_,_=>none
@[simp] theorem aH4{g:Bool}{a b:Nat}:(Nd.mm g a b).den I val=Sj g (val a) (val b):=rfl
@[simp] theorem aHJ{k:IntKind}{x y:Int}:Sj true (some (.i k x)) (some (.i k y))=some (.i k (if x<y then y else x)):=by simp[Sj]
@[simp] theorem aHI{k:IntKind}{x y:Int}:Sj false (some (.i k x)) (some (.i k y))=some (.i k (if y<x then y else x)):=by simp[Sj]
def agA(k:IntKind)(x:W3):W3:=match x with
 |some (.i _ n)=>some (.i k (k.wrap n))
 |_=>none
@[simp] theorem aHU{k:IntKind}{a:Nat}:(Nd.conv k a).den I val=agA k (val a):=rfl
@[simp] theorem aGS{k c:IntKind}{n:Int}:agA k (some (.i c n))=some (.i k (k.wrap n)):=rfl
def len1(x:W3):W3:=match x with
 |some (.l c)=>some (.i .i64 c.length)
 |_=>none
@[simp] theorem aHY{a:Nat}:(Nd.len a).den I val=len1 (val a):=rfl
@[simp] theorem aHF{xs:Q1}:len1 (some (.l xs))=some (.i .i64 xs.length):=rfl
def al7(x:W3):W3:=match x with
 |some (.s x)=>some (.i .i64 x.length)
 |_=>none
@[simp] theorem aIa{a:Nat}:(Nd.slen a).den I val=al7 (val a):=rfl
@[simp] theorem aIu{x:Q0}:al7 (some (.s x))=some (.i .i64 x.length):=rfl
def adF(x i:W3):W3:=match x,i with
 |some (.s x),some (.i _ k)=>if 0<=k then match x[k.toNat]? with
  |some c=>some (.i .u8 c.toNat)
  |none=>none
  else none
 |_,_=>none
@[simp] theorem aH9{a i:Nat}:(Nd.IW a i).den I val=adF (val a) (val i):=rfl
@[simp] theorem aIt{x:Q0}{d:IntKind}{k:Int}:adF (some (.s x)) (some (.i d k))=if 0<=k then(x[k.toNat]?).bind λc=>some (.i .u8 c.toNat)else none:=by
 simp only[adF];split
 ·cases x[k.toNat]?<;>rfl
 ·rfl
def ami(x lo hi:W3):W3:=match x,lo,hi with
 |some (.s x),some (.i _ l),some (.i _ h)=>if 0<=l/\l<=h/\h<=x.length then some (.s ((x.take h.toNat).drop l.toNat))else none
 |_,_,_=>none
@[simp] theorem aIb{a l h:Nat}:(Nd.IX a l h).den I val=ami (val a) (val l) (val h):=rfl
def ajK(z m k:W3):W3:=match z,m,k with
 |some d,some (.l c),some g=>some ((gZ g c).getD d)
 |_,_,_=>none
def ajL(m k:W3):W3:=match m,k with
 |some (.l c),some g=>some (.b (gZ g c).isSome)
 |_,_=>none
def ajP(m k v:W3):W3:=match m,k,v with
 |some (.l c),some g,some u=>some (.l (kH g u c))
 |_,_,_=>none
@[simp] theorem aH0{z m k:Nat}:(Nd.Iw z m k).den I val=ajK (val z) (val m) (val k):=rfl
@[simp] theorem aH1{m k:Nat}:(Nd.Iy m k).den I val=ajL (val m) (val k):=rfl
@[simp] theorem aH5{m k v:Nat}:(Nd.DU m k v).den I val=ajP (val m) (val k) (val v):=rfl
@[simp] theorem aHG{d g:GV}{xs:Q1}:ajK (some d) (some (.l xs)) (some g)=some ((gZ g xs).getD d):=rfl
@[simp] theorem aHH{g:GV}{xs:Q1}:ajL (some (.l xs)) (some g)=some (.b (gZ g xs).isSome):=rfl
@[simp] theorem aHK{g u:GV}{xs:Q1}:ajP (some (.l xs)) (some g) (some u)=some (.l (kH g u xs)):=rfl
@[simp] theorem aIz{x:Q0}{k c:IntKind}{l h:Int}:ami (some (.s x)) (some (.i k l)) (some (.i c h))=if 0<=l/\l<=h/\h<=x.length then some (.s ((x.take h.toNat).drop l.toNat))else none:=rfl
def OA(size:Nat)(x lo hi:W3):W3:=match x,lo,hi with
 |some (.l c),some (.i _ l),some (.i _ h)=>if 0<=l/\l<=h/\h<=c.length/\(c.all λx=>Nat.beq x.cells.length size)=true then some (.l ((c.take h.toNat).drop l.toNat))else none
 |_,_,_=>none
@[simp] theorem aHZ{s a l h:Nat}:(Nd.FI s a l h).den I val=OA s (val a) (val l) (val h):=rfl
@[simp] theorem nT{s:Nat}{xs:Q1}{k c:IntKind}{l h:Int}:OA s (some (.l xs)) (some (.i k l)) (some (.i c h))=if 0<=l/\l<=h/\h<=xs.length/\(xs.all λx=>Nat.beq x.cells.length s)=true then some (.l ((xs.take h.toNat).drop l.toNat))else none:=rfl
def Fj(x i:W3):W3:=match x,i with
 |some (.l c),some (.i _ k)=>if 0<=k/\k<c.length then some (.i .i64 k)else none
 |_,_=>none
@[simp] theorem aHW{a i:Nat}:(Nd.idx a i).den I val=Fj (val a) (val i):=rfl
@[simp] theorem jZ{xs:Q1}{c:IntKind}{k:Int}:Fj (some (.l xs)) (some (.i c k))=if 0<=k/\k<xs.length then some (.i .i64 k)else none:=rfl
def at2(size:Nat)(x i:W3):W3:=match x,i with
 |some (.l c),some (.i _ k)=>if 0<=k then match c[k.toNat]? with
  |some x=>if x.cells.length=size then some x else none
  |none=>none
  else none
 |_,_=>none
@[simp] theorem aHM{s a i:Nat}:(Nd.at s a i).den I val=at2 s (val a) (val i):=rfl
@[simp] theorem dJ{s:Nat}{xs:Q1}{c:IntKind}{k:Int}:at2 s (some (.l xs)) (some (.i c k))=if 0<=k then(xs[k.toNat]?).bind λx=>if x.cells.length=s then some x else none else none:=by
 simp only[at2];split
 ·cases xs[k.toNat]?<;>rfl
 ·rfl
def cell1(off:Nat)(x:W3):W3:=match x with
 |some g=>match g.cells[off]? with
  |some c=>if c.scalar then some c else none
  |none=>none
 |none=>none
@[simp] theorem aHS{o a:Nat}:(Nd.cell o a).den I val=cell1 o (val a):=rfl
@[simp] theorem aGM{o:Nat}{g:GV}:cell1 o (some g)=(g.cells[o]?).bind λc=>if c.scalar=true then some c else none:=by simp only[cell1];cases g.cells[o]?<;>rfl
@[simp] theorem aH2{l:Q2}:(Nd.mk l).den I val=(valsOf val l).bind λgs=>if gs.all GV.scalar=true then some (.g gs)else none:=by simp only[Nd.den];cases valsOf val l<;>rfl
@[simp] theorem aH3{l:Q2}:(Nd.ml l).den I val=(valsOf val l).bind λgs=>some (.l gs):=by simp only[Nd.den];cases valsOf val l<;>rfl
def Jv(size e:Nat)(x y:W3):W3:=match x,y with
 |some (.l d),some (.l c)=>if c.all (GV.gQ size)=true/\2*(d.length+c.length)*e<=2^48/\d.length+c.length<=2^48 then some (.l (d++c))else none
 |_,_=>none
@[simp] theorem aHL{z s a b:Nat}:(Nd.app z s a b).den I val=Jv z s (val a) (val b):=rfl
@[simp] theorem GZ{z s:Nat}{xs c:Q1}:Jv z s (some (.l xs)) (some (.l c))=if c.all (GV.gQ z)=true/\2*(xs.length+c.length)*s<=2^48/\xs.length+c.length<=2^48 then some (.l (xs++c))else none:=rfl
def Gs(size off:Nat)(x i:W3)(vs:Wr):W3:=match x,i,vs with
 |some (.l c),some (.i _ k),some d=>if 0<=k/\d.all GV.scalar=true then match c[k.toNat]? with
  |some x=>if x.cells.length=size then(x.put off d).map λy=>.l (c.set k.toNat y)else none
  |none=>none
  else none
 |_,_,_=>none
@[simp] theorem aIe{s o a i:Nat}{vs:Q2}:(Nd.upd s o a i vs).den I val=Gs s o (val a) (val i) (valsOf val vs):=rfl
@[simp] theorem vX{s o:Nat}{xs:Q1}{c:IntKind}{k:Int}{gs:Q1}:Gs s o (some (.l xs)) (some (.i c k)) (some gs)=if 0<=k/\gs.all GV.scalar=true then(xs[k.toNat]?).bind λx=>if x.cells.length=s then(x.put o gs).map λy=>.l (xs.set k.toNat y)else none else none:=by
 simp only[Gs];split
 ·cases xs[k.toNat]?<;>rfl
 ·rfl
@[simp] theorem aIk{k:IntKind}{n:Int}{v:GV}:(GV.i k n).put 0 [v]=some v:=rfl
def alp(size d:Nat)(z l c:W3):W3:=match z,l,c with
 |some x,some (.i _ n),some (.i _ m)=>if 0<=n/\n<=m/\d*m<=2^48/\m<=2^60/\x.gQ size=true then some (.l (List.replicate n.toNat x))else none
 |_,_,_=>none
@[simp] theorem aH6{s b z l c:Nat}:(Nd.rep s b z l c).den I val=alp s b (val z) (val l) (val c):=rfl
@[simp] theorem aIl{s b:Nat}{x:GV}{k c:IntKind}{n m:Int}:alp s b (some x) (some (.i k n)) (some (.i c m))=if 0<=n/\n<=m/\b*m<=2^48/\m<=2^60/\x.gQ s=true then some (.l (List.replicate n.toNat x))else none:=by cases x<;>rfl
@[simp] theorem aHQ{a:Nat}:(Nd.bytes a).den I val=(val a).bind λg=>match g with|.s x=>some (.l (dK x))|_=>none:=by
 simp only[Nd.den];cases val a with
 |none=>rfl
 |some g=>cases g<;>rfl
@[simp] theorem aIc{a:Nat}:(Nd.str a).den I val=(val a).bind λg=>match g with|.l xs=>if xs.length<=2^48 then(pR xs).map .s else none|_=>none:=by
 simp only[Nd.den];cases val a with
 |none=>rfl
 |some g=>cases g<;>rfl
@[simp] theorem aH7{a b:Nat}:(Nd.same a b).den I val=(val a).bind λg=>(val b).bind λh=>match g,h with|.l xs,.l c=>if c.length=xs.length then some (.l c)else none|_,_=>none:=by
 simp only[Nd.den];cases val a with
 |none=>rfl
 |some g=>cases val b with
  |none=>cases g<;>rfl
  |some h=>cases g<;>cases h<;>rfl
@[simp] theorem aHX{a j:Nat}:(Nd.Cb a j).den I val=(val a).bind λg=>match g with|.i _ m=>some (.b (decide (m=(j:Int))))|_=>none:=by
 simp only[Nd.den];cases val a with
 |none=>rfl
 |some g=>cases g<;>rfl
@[simp] theorem aH8{a:Nat}:(Nd.IV a).den I val=(val a).bind λg=>match g with|.s x=>some (.s x)|_=>none:=by
 simp only[Nd.den];cases val a with
 |none=>rfl
 |some g=>cases g<;>rfl
end
section
variable{k:IntKind}{a b:Int}
@[simp] theorem aGg:jm .add (some (.i k a)) (some (.i k b))=some (.i k (k.wrap (a+b))):=by simp[jm,jd,dw]
@[simp] theorem aGB:jm .sub (some (.i k a)) (some (.i k b))=some (.i k (k.wrap (a-b))):=by simp[jm,jd,dw]
@[simp] theorem aGn:jm .mul (some (.i k a)) (some (.i k b))=some (.i k (k.wrap (a*b))):=by simp[jm,jd,dw]
@[simp] theorem aGq:jm .quo (some (.i k a)) (some (.i k b))=if b=0 then none else some (.i k (k.wrap (a.tdiv b))):=by simp[jm,jd,dw]
@[simp] theorem aGr:jm .rem (some (.i k a)) (some (.i k b))=if b=0 then none else some (.i k (a.tmod b)):=by simp[jm,jd,dw]
@[simp] theorem aGi:jm .eql (some (.i k a)) (some (.i k b))=some (.b (decide (a=b))):=by simp only[jm,jd,dw,if_true];rw[show(a==b)=decide (a=b)from rfl]
@[simp] theorem aGo:jm .neq (some (.i k a)) (some (.i k b))=some (.b (decide (a≠b))):=by simp only[jm,jd,dw,if_true,bne];rw[show(a==b)=decide (a=b)from rfl,<-decide_not]
@[simp] theorem aGm:jm .lss (some (.i k a)) (some (.i k b))=some (.b (decide (a<b))):=by simp[jm,jd,dw]
@[simp] theorem aGl:jm .leq (some (.i k a)) (some (.i k b))=some (.b (decide (a<=b))):=by simp[jm,jd,dw]
@[simp] theorem aGk:jm .gtr (some (.i k a)) (some (.i k b))=some (.b (decide (b<a))):=by simp[jm,jd,dw]
@[simp] theorem aGj:jm .geq (some (.i k a)) (some (.i k b))=some (.b (decide (b<=a))):=by simp[jm,jd,dw]
@[simp] theorem aGh:jm .and (some (.i k a)) (some (.i k b))=dw .and k a b:=by simp[jm,jd]
@[simp] theorem aGp:jm .or (some (.i k a)) (some (.i k b))=dw .or k a b:=by simp[jm,jd]
@[simp] theorem aGC:jm .xor (some (.i k a)) (some (.i k b))=dw .xor k a b:=by simp[jm,jd]
@[simp] theorem aGw{c:IntKind}:jm .shl (some (.i k a)) (some (.i c b))=kT .shl k a b:=rfl
@[simp] theorem aGx{c:IntKind}:jm .shr (some (.i k a)) (some (.i c b))=kT .shr k a b:=rfl
end
section
variable{a b:Q0}
@[simp] theorem aGs:jm .add (some (.s a)) (some (.s b))=if((a.length+b.length:Nat):Int)<=9223372036854775807 then some (.s (a++b))else none:=by simp only[jm,jd,zk];rfl
@[simp] theorem aGt:jm .eql (some (.s a)) (some (.s b))=some (.b (decide (a=b))):=by simp only[jm,jd,zk];congr 2;rw[zx];simp
@[simp] theorem aGA:jm .neq (some (.s a)) (some (.s b))=some (.b (decide (a≠b))):=by simp only[jm,jd,zk];congr 2;rw[zx];simp
@[simp] theorem aGz:jm .lss (some (.s a)) (some (.s b))=some (.b (Op.bytesLess a b)):=rfl
@[simp] theorem aGu:jm .geq (some (.s a)) (some (.s b))=some (.b (!(Op.bytesLess a b))):=rfl
@[simp] theorem aGy:jm .leq (some (.s a)) (some (.s b))=some (.b (Op.bytesLess a b ||a==b)):=rfl
@[simp] theorem aGv:jm .gtr (some (.s a)) (some (.s b))=some (.b (!(Op.bytesLess a b ||a==b))):=rfl
end
@[simp] theorem aGD{a b:Bool}:ZR .eql (some (.b a)) (some (.b b))=some (.b (a==b)):=rfl
@[simp] theorem aGE{a b:Bool}:ZR .neq (some (.b a)) (some (.b b))=some (.b (!(a==b))):=rfl
@[simp] theorem aGF{c:Q2}{a b:Q1}:Qv .eql c (some (.g a)) (some (.g b))=(pV c a b).bind λr=>some (.b r):=by simp only[Qv,Nv];cases pV c a b<;>rfl
@[simp] theorem aGG{c:Q2}{a b:Q1}:Qv .neq c (some (.g a)) (some (.g b))=(pV c a b).bind λr=>some (.b (!r)):=by simp only[Qv,Nv];cases pV c a b<;>rfl
@[simp] theorem aIF{a:Bool}:YU .not (some (.b a))=some (.b (!a)):=rfl
@[simp] theorem aIE{k:IntKind}{a:Int}:YU .neg (some (.i k a))=some (.i k (k.wrap (0-a))):=rfl
@[simp] theorem aoL{cs:Q1}:(GV.g cs).cells=cs:=rfl
@[simp] theorem aGO{k:IntKind}{n:Int}:(GV.i k n).cells=[.i k n]:=rfl
@[simp] theorem aGN{x:Bool}:(GV.b x).cells=[.b x]:=rfl
@[simp] theorem aGQ{x:Q0}:(GV.s x).cells=[.s x]:=rfl
@[simp] theorem aGP{x:Q1}:(GV.l x).cells=[.l x]:=rfl
@[simp] theorem aIp{cs:Q1}:(GV.g cs).scalar=false:=rfl
@[simp] theorem aIq{k:IntKind}{n:Int}:(GV.i k n).scalar=true:=rfl
@[simp] theorem aIo{x:Bool}:(GV.b x).scalar=true:=rfl
@[simp] theorem aIs{x:Q0}:(GV.s x).scalar=true:=rfl
@[simp] theorem aIr{x:Q1}:(GV.l x).scalar=true:=rfl
def Wj{Ds:Wc}{k:Nat}{d e:WN}{t:Tree}{gs c:Q1}(g:Ds[k]? =some (.fn d e t))(hi:qE d gs=true)(h:t.go (wE Ds).lim gs.length (Qp gs)=some c)(i:qE e c=true):(wE Ds).lim k gs=some c:=by have h:t.den (wE Ds).lim gs=some c:=(Tree.Q9 t gs).symm.trans h;exact KD g (by simp only[aH.den,au hi,h,au i])
def jG{Ds:Wc}{k n:Nat}{t:Tree}{gs c:Q1}(d:Ds[k]? =some (.tree n t))(e:gs.length=n)(h:t.go (wE Ds).lim gs.length (Qp gs)=some c):(wE Ds).lim k gs=some c:=by have h:t.den (wE Ds).lim gs=some c:=(Tree.Q9 t gs).symm.trans h;exact KD d (by simp only[aH.den,au e,h])
def aW{Ds:Wc}{k:Nat}{d e:WN}{t:Tree}{gs c:Q1}(h:t.go (wE Ds).lim gs.length (Qp gs)=some c)(g:Ds[k]? =some (.fn d e t):=by exact rfl)(hi:qE d gs=true:=by exact rfl)(i:qE e c=true:=by exact rfl):(wE Ds).lim k gs=some c:=Wj g hi h i
def aB{Ds:Wc}{k n:Nat}{t:Tree}{gs c:Q1}(h:t.go (wE Ds).lim gs.length (Qp gs)=some c)(d:Ds[k]? =some (.tree n t):=by exact rfl)(e:gs.length=n:=by exact rfl):(wE Ds).lim k gs=some c:=jG d e h
def iK{α:Type}{l:List α}{i:Nat}(h:l.length<=i:=by omega):l.drop i=[]:=Je h
abbrev GV.zu(n:Int):GV:=.i .u64 n
abbrev GV.zq(n:Int):GV:=.i .i64 n
def bU{α:Sort _}{c:Prop}{_:Decidable c}{a b:α}(h:¬c:=by omega):ite c a b=b:=aj h
def lV{α:Sort _}{c:Prop}{_:Decidable c}{a b:α}(h:c:=by omega):ite c a b=a:=au h
def D7{Ds:Wc}{k:Nat}{f:Q1->Option Q1}{gs c:Q1}(d:Ds[k]? =some (.uY f))(h:f gs=some c):(wE Ds).lim k gs=some c:=
 KD d h
def avu{gs:Q1}(h:hasArgs [] gs):gs=[]:=by simpa only[hasArgs]using h
def aif{l:WK}{r:List (Bool×WK)}{gs:Q1}(h:hasArgs ((true,l)::r) gs):∃cs c,gs=.g cs::c/\dh.jI l cs/\hasArgs r c:=by
 simp only[hasArgs]at h;obtain⟨g,c,rfl,d,e,i⟩:=h;cases g<;>simp[GV.scalar]at e
 exact⟨_,_,rfl,d,i⟩
def rE{t:dh}{l:WK}{gs:Q1}(h:dh.jI (t::l) gs):∃g r,gs=g::r/\t.has g/\dh.jI l r:=by simpa only[dh.jI]using h
def Oo{gs:Q1}(h:dh.jI [] gs):gs=[]:=by simpa only[dh.jI]using h
def aa5{t:dh}{r:List (Bool×WK)}{gs:Q1}(h:hasArgs ((false,[t])::r) gs):∃g c,gs=g::c/\t.has g/\hasArgs r c:=by simp only[hasArgs]at h;obtain⟨g,c,rfl,d,i,j⟩:=h;refine⟨_,_,rfl,?_,j⟩;obtain⟨g0,r0,e,m,n⟩:=rE d;cases g<;>simp[GV.scalar]at i<;>simp only[GV.cells,yA]at e<;>rw[e.1]<;>exact m
def Ko{g:GV}(h:(dh.int .u64).has g):∃n,g=.i .u64 n/\0<=n/\n<18446744073709551616:=by simp only[dh.has]at h;obtain⟨n,rfl,c,d⟩:=h;exact⟨n,rfl,by simpa[IntKind.min,IntKind.signed]using c,by simp[IntKind.max,IntKind.signed,IntKind.bits]at d;omega⟩
def aij{g:GV}(h:dh.str.has g):∃s,g=.s s/\s.length<=reachBytes:=by simpa only[dh.has]using h
def WH{b:Bool}{e:WK}{g:GV}(h:(dh.list b e).has g):∃xs,g=.l xs/\xs.length<=reachBytes/\∀x∈xs,dh.jI e x.cells/\x.scalar = !b:=by simpa only[dh.has]using h
def RS{α:Type}{f:α->GV}{p:α->Prop}:∀{xs:Q1},(∀x∈xs,∃r,p r/\x=f r)->∃rs:List α,(∀r∈rs,p r)/\xs=rs.map f
 |[],_=>⟨[],aA,rfl⟩
 |x::xs,h=>by
  obtain⟨r,h1,d⟩:=h x aA;obtain⟨rs,e,g⟩:=RS (xs:=xs) λy i=>h y (by simp[i]);refine⟨r::rs,λq c=>?_,by rw[d,g];rfl⟩;rcases bI.1 c with rfl|c
  ·exact h1
  ·exact e q c
def wrap64{n:Int}(h0: -9223372036854775808<=n)(h1:n<=9223372036854775807):IntKind.i64.wrap n=n:=by
 have:IntKind.i64.wrap n=if n%18446744073709551616>=9223372036854775808 then n%18446744073709551616-18446744073709551616 else n%18446744073709551616:=by simp[IntKind.wrap,IntKind.signed,IntKind.bits]
 rw[this];split<;>omega
def I9{n:Int}(h0:0<=n)(h1:n<18446744073709551616):IntKind.u64.wrap n=n:=by
 have:IntKind.u64.wrap n=n%18446744073709551616:=by simp[IntKind.wrap,IntKind.signed,IntKind.bits]
 rw[this];omega
def bH(n:Int)(h0: -9223372036854775808<=n:=by omega)(c:n<=9223372036854775807:=by omega):IntKind.i64.wrap n=n:=wrap64 h0 c
def jV(n:Int)(h0:0<=n:=by omega)(c:n<18446744073709551616:=by omega):IntKind.u64.wrap n=n:=I9 h0 c
def goC(I:ji)(f:Nat)(l:Q2)(r:Wr):Tree->Nat->(Wb)->Option Q1
 |.step nd t,k,val=>match nd with
  |.call c d j=>if c=f/\d=l then(match r.bind λr=>r[j]? with
    |some g=>goC I f l r t (k+1) (upd val k g)
    |none=>none)else(Tree.step (.call c d j) t).go I k val
  |nd=>(Tree.step nd t).go I k val
 |t,k,val=>t.go I k val
def amY{val:Wb}{k:Nat}{g:GV}:∀{l:Q2},(l.all λi=>Nat.blt i k)=true->valsOf (upd val k g) l=valsOf val l
 |[],_=>rfl
 |n::l,h=>by simp only[uG,aO,jX]at h;rw[amX,amX,amY h.2,upd_ne ah]
def ahU{I:ji}{f:Nat}{l:Q2}{r:Wr}:∀(t:Tree)(k:Nat)(val:Wb),(l.all λi=>Nat.blt i k)=true->(valsOf val l).bind (I f)=r->t.go I k val=goC I f l r t k val
 |.step nd t,k,val,d,m=>by
  cases nd with
  |call o c j=>
   simp only[goC];split
   ·next h=>
    obtain⟨rfl,rfl⟩:=h;rw[aEX,ayq];have e:((valsOf val c).bind λp=>(I o p).bind λr=>r[j]?)=r.bind λr=>r[j]?:=by rw[<-m];cases valsOf val c<;>rfl
    rw[e];cases r.bind λr=>r[j]? with
    |none=>rfl
    |some g=>
     simp only[aoh];refine ahU t (k+1) (upd val k g) ?_ ?_
     ·rw[List.all_eq_true]at d⊢;intro i hi;have:=d i hi;rw[jX]at this⊢;omega
     ·rw[amY d];exact m
   ·rfl
  |_=>rfl
 |.ite n t e,k,val,_,_=>rfl
 |.ret c,k,val,_,_=>rfl
 |.tail o c,k,val,_,_=>rfl
 |.dead,k,val,_,_=>rfl
def afF(o:W3)(I:ji)(f:Nat)(l:Q2)(r:Wr)(t:Tree)(k:Nat)(val:Wb):Wr:=match o with
 |some g=>goC I f l r t (k+1) (upd val k g)
 |none=>none
section
variable{I:ji}{f:Nat}{l:Q2}{r:Wr}{k:Nat}{val:Wb}{t:Tree}
def Q8{j:Nat}(h:(l.all λi=>decide (i<k))=true):(Tree.step (.call f l j) t).go I k val=goC I f l ((valsOf val l).bind (I f)) (.step (.call f l j) t) k val:=ahU _ _ _ (by rw[List.all_eq_true]at h⊢;intro i hi;have:=h i hi;rw[decide_eq_true_iff]at this;rw[jX];exact this) rfl
@[simp high] theorem aG6{r:Q1}{j:Nat}:goC I f l (some r) (.step (.call f l j) t) k val=afF (r[j]?) I f l (some r) t k val:=by simp only[goC,and_self,if_true,BD];cases r[j]?<;>rfl
@[simp] theorem aGH{g:GV}:afF (some g) I f l r t k val=goC I f l r t (k+1) (upd val k g):=rfl
@[simp] theorem aHo{c j:Nat}{d:Q2}(h:¬(c=f/\d=l)):goC I f l r (.step (.call c d j) t) k val=(Tree.step (.call c d j) t).go I k val:=by simp only[goC,aj h]
@[simp] theorem aHf{n:Nat}{e:Tree}:goC I f l r (.ite n t e) k val=(Tree.ite n t e).go I k val:=rfl
@[simp] theorem aHq{c:Q2}:goC I f l r (.ret c) k val=(Tree.ret c).go I k val:=rfl
@[simp] theorem aHx{c:Nat}{d:Q2}:goC I f l r (.tail c d) k val=(Tree.tail c d).go I k val:=rfl
@[simp] theorem aHc:goC I f l r .dead k val=Tree.dead.go I k val:=rfl
@[simp] theorem aG9{y0 y1}:goC I f l r (.step (.ci y0 y1) t) k val=(Tree.step (.ci y0 y1) t).go I k val:=rfl
@[simp] theorem aG7{y0}:goC I f l r (.step (.cb y0) t) k val=(Tree.step (.cb y0) t).go I k val:=rfl
@[simp] theorem aHb{y0}:goC I f l r (.step (.cs y0) t) k val=(Tree.step (.cs y0) t).go I k val:=rfl
@[simp] theorem aG2{y0 y1 y2}:goC I f l r (.step (.bin y0 y1 y2) t) k val=(Tree.step (.bin y0 y1 y2) t).go I k val:=rfl
@[simp] theorem aG3{y0 y1 y2}:goC I f l r (.step (.G7 y0 y1 y2) t) k val=(Tree.step (.G7 y0 y1 y2) t).go I k val:=rfl
@[simp] theorem aG4{y0 y1 y2 y3}:goC I f l r (.step (.G8 y0 y1 y2 y3) t) k val=(Tree.step (.G8 y0 y1 y2 y3) t).go I k val:=rfl
@[simp] theorem aHy{y0 y1}:goC I f l r (.step (.un y0 y1) t) k val=(Tree.step (.un y0 y1) t).go I k val:=rfl
@[simp] theorem aHm{y0 y1 y2}:goC I f l r (.step (.mm y0 y1 y2) t) k val=(Tree.step (.mm y0 y1 y2) t).go I k val:=rfl
@[simp] theorem aHa{y0 y1}:goC I f l r (.step (.conv y0 y1) t) k val=(Tree.step (.conv y0 y1) t).go I k val:=rfl
@[simp] theorem aHg{y0}:goC I f l r (.step (.len y0) t) k val=(Tree.step (.len y0) t).go I k val:=rfl
@[simp] theorem aHu{y0}:goC I f l r (.step (.slen y0) t) k val=(Tree.step (.slen y0) t).go I k val:=rfl
@[simp] theorem aHe{y0 y1}:goC I f l r (.step (.Cb y0 y1) t) k val=(Tree.step (.Cb y0 y1) t).go I k val:=rfl
@[simp] theorem aHt{y0 y1}:goC I f l r (.step (.IW y0 y1) t) k val=(Tree.step (.IW y0 y1) t).go I k val:=rfl
@[simp] theorem aHv{y0 y1 y2}:goC I f l r (.step (.IX y0 y1 y2) t) k val=(Tree.step (.IX y0 y1 y2) t).go I k val:=rfl
@[simp] theorem aHh{y0 y1 y2 y3}:goC I f l r (.step (.FI y0 y1 y2 y3) t) k val=(Tree.step (.FI y0 y1 y2 y3) t).go I k val:=rfl
@[simp] theorem aHd{y0 y1}:goC I f l r (.step (.idx y0 y1) t) k val=(Tree.step (.idx y0 y1) t).go I k val:=rfl
@[simp] theorem aG1{y0 y1 y2}:goC I f l r (.step (.at y0 y1 y2) t) k val=(Tree.step (.at y0 y1 y2) t).go I k val:=rfl
@[simp] theorem aG8{y0 y1}:goC I f l r (.step (.cell y0 y1) t) k val=(Tree.step (.cell y0 y1) t).go I k val:=rfl
@[simp] theorem aHk{y0}:goC I f l r (.step (.mk y0) t) k val=(Tree.step (.mk y0) t).go I k val:=rfl
@[simp] theorem aHl{y0}:goC I f l r (.step (.ml y0) t) k val=(Tree.step (.ml y0) t).go I k val:=rfl
@[simp] theorem aG0{y0 y1 y2 y3}:goC I f l r (.step (.app y0 y1 y2 y3) t) k val=(Tree.step (.app y0 y1 y2 y3) t).go I k val:=rfl
@[simp] theorem aHz{y0 y1 y2 y3 y4}:goC I f l r (.step (.upd y0 y1 y2 y3 y4) t) k val=(Tree.step (.upd y0 y1 y2 y3 y4) t).go I k val:=rfl
@[simp] theorem aHp{y0 y1 y2 y3 y4}:goC I f l r (.step (.rep y0 y1 y2 y3 y4) t) k val=(Tree.step (.rep y0 y1 y2 y3 y4) t).go I k val:=rfl
@[simp] theorem aG5{y0}:goC I f l r (.step (.bytes y0) t) k val=(Tree.step (.bytes y0) t).go I k val:=rfl
@[simp] theorem aHw{y0}:goC I f l r (.step (.str y0) t) k val=(Tree.step (.str y0) t).go I k val:=rfl
@[simp] theorem aHr{y0 y1}:goC I f l r (.step (.same y0 y1) t) k val=(Tree.step (.same y0 y1) t).go I k val:=rfl
@[simp] theorem aHs{y0}:goC I f l r (.step (.IV y0) t) k val=(Tree.step (.IV y0) t).go I k val:=rfl
@[simp] theorem aHi{y0 y1 y2}:goC I f l r (.step (.Iw y0 y1 y2) t) k val=(Tree.step (.Iw y0 y1 y2) t).go I k val:=rfl
@[simp] theorem aHj{y0 y1}:goC I f l r (.step (.Iy y0 y1) t) k val=(Tree.step (.Iy y0 y1) t).go I k val:=rfl
@[simp] theorem aHn{y0 y1 y2}:goC I f l r (.step (.DU y0 y1 y2) t) k val=(Tree.step (.DU y0 y1 y2) t).go I k val:=rfl
