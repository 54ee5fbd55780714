/- Plain laws over trees: values of one's own as ground values; how a tree is gone through. -/
import Derived.Test.YthchhlenbkefnaaGreatDoorAbsJ
set_option linter.all false
namespace Go.aN
def JF{Ds:W8}{k:Nat}{d:aF}{gs c:Q1}(e:Ds[k]? =some d)(h:d.den (vF Ds).lim gs=some c):(vF Ds).lim k gs=some c:=iR.awU e h
def upd(val:Wa)(k:Nat)(g:GV):Nat->Option GV:=λn=>if n=k then some g else val n
def Po(gs:Q1):Nat->Option GV:=λn=>gs[n]?
@[simp] theorem aGi{gs:Q1}{n:Nat}:Po gs n=gs[n]?:=rfl
@[simp] theorem upd_same{val:Wa}{k:Nat}{g:GV}:upd val k g k=some g:=aj rfl
@[simp] theorem upd_ne{val:Wa}{k n:Nat}{g:GV}(h:n≠k):upd val k g n=val n:=ah h
def Tree.go(I:iO):Tree->Nat->(Wa)->Option Q1
 |.step nd t,k,val=>match nd.den I val with
  |some g=>t.go I (k+1) (upd val k g)
  |none=>none
 |.ite n t e,k,val=>match val n with
  |some (.b true)=>t.go I k val
  |some (.b false)=>e.go I k val
  |_=>none
 |.ret l,_,val=>valsOf val l
 |.tail f l,_,val=>match valsOf val l with
  |some gs=>I f gs
  |none=>none
 |.dead,_,_=>none
def Tree.Qo{I:iO}:∀(t:Tree)(c:Q1),t.go I c.length (λn=>c[n]?)=t.den I c
 |.step nd t,c=>by
  simp only[Tree.go,Tree.den];cases nd.den I λn=>c[n]? with
  |none=>rfl
  |some g=>
   simp only;rw[<-Tree.Qo t (c++[g])];congr 1
   ·simp
   ·funext n;unfold upd;split
    ·next h=>subst h;simp
    ·next h=>
     show c[n]? =(c++[g])[n]?
     rcases yN n c.length with d|d
     ·rw[og d]
     ·rw[xI d,wG (l:=c) d,wG];simp;omega
 |.ite n t e,c=>by simp only[Tree.go,Tree.den,Tree.Qo t c,Tree.Qo e c];rfl
 |.ret l,c=>rfl
 |.tail f l,c=>rfl
 |.dead,c=>rfl
def ae9(o:W3)(I:iO)(t:Tree)(k:Nat)(val:Wa):Wo:=match o with
 |some g=>t.go I (k+1) (upd val k g)
 |none=>none
def afV(o:W3)(I:iO)(t e:Tree)(k:Nat)(val:Wa):Wo:=match o with
 |some (.b true)=>t.go I k val
 |some (.b false)=>e.go I k val
 |_=>none
section
variable{I:iO}{k:Nat}{val:Wa}
@[simp] theorem anx{g:GV}{t:Tree}:ae9 (some g) I t k val=t.go I (k+1) (upd val k g):=rfl
@[simp] theorem aGU{c:Bool}{t e:Tree}:afV (some (.b c)) I t e k val=if c=true then t.go I k val else e.go I k val:=by cases c<;>rfl
@[simp] theorem aEV{nd:Nd}{t:Tree}:(Tree.step nd t).go I k val=ae9 (nd.den I val) I t k val:=rfl
@[simp] theorem aID{n:Nat}{t e:Tree}:(Tree.ite n t e).go I k val=afV (val n) I t e k val:=rfl
@[simp] theorem aIE{l:Q2}:(Tree.ret l).go I k val=valsOf val l:=rfl
@[simp] theorem aIC:Tree.dead.go I k val=none:=rfl
@[simp] theorem aIF{f:Nat}{l:Q2}:(Tree.tail f l).go I k val=(valsOf val l).bind (I f):=by simp only[Tree.go];cases valsOf val l<;>rfl
end
@[simp] theorem ax7{I:iO}{f j:Nat}{l:Q2}{val:Wa}:(Nd.call f l j).den I val=(valsOf val l).bind λgs=>(I f gs).bind λr=>r[j]?:=by
 simp only[Nd.den];cases valsOf val l with
 |none=>rfl
 |some gs=>simp only[Aq];cases I f gs<;>rfl
@[simp] theorem aII{val:Wa}:valsOf val []=some []:=rfl
@[simp] theorem amf{val:Wa}{n:Nat}{l:Q2}:valsOf val (n::l)=(val n).bind λg=>(valsOf val l).bind λr=>some (g::r):=by simp only[valsOf];cases val n<;>cases valsOf val l<;>rfl
def iT(c:BinOp)(x y:W3):W3:=match x,y with
 |some a,some b=>iJ c a b
 |_,_=>none
def Y8(c:BinOp)(x y:W3):W3:=match x,y with
 |some a,some b=>Ul c a b
 |_,_=>none
def Py(c:BinOp)(d:Q2)(x y:W3):W3:=match x,y with
 |some a,some b=>Md c d a b
 |_,_=>none
def X7(c:UnOp)(x:W3):W3:=match x with
 |some a=>X8 c a
 |none=>none
section
variable{I:iO}{val:Wa}
@[simp] theorem aHW{k:IntKind}{n:Int}:(Nd.ci k n).den I val=some (.i k n):=rfl
@[simp] theorem aHU{x:Bool}:(Nd.cb x).den I val=some (.b x):=rfl
@[simp] theorem aHY{x:Q0}:(Nd.cs x).den I val=some (.s x):=rfl
@[simp] theorem aHQ{c:BinOp}{a b:Nat}:(Nd.bin c a b).den I val=iT c (val a) (val b):=rfl
@[simp] theorem aHR{c:BinOp}{a b:Nat}:(Nd.F7 c a b).den I val=Y8 c (val a) (val b):=rfl
@[simp] theorem aHS{c:BinOp}{d:Q2}{a b:Nat}:(Nd.F8 c d a b).den I val=Py c d (val a) (val b):=rfl
@[simp] theorem aIg{c:UnOp}{a:Nat}:(Nd.un c a).den I val=X7 c (val a):=rfl
def QU(c:Bool)(x y:W3):W3:=match x,y with
 |some (.i k x),some (.i d y)=>if k=d then some (.i k (if c then(if x<y then y else x)else(if y<x then y else x)))else none
 |_,_=>none
@[simp] theorem aH7{g:Bool}{a b:Nat}:(Nd.mm g a b).den I val=QU g (val a) (val b):=rfl
@[simp] theorem aHM{k:IntKind}{x y:Int}:QU true (some (.i k x)) (some (.i k y))=some (.i k (if x<y then y else x)):=by simp[QU]
@[simp] theorem aHL{k:IntKind}{x y:Int}:QU false (some (.i k x)) (some (.i k y))=some (.i k (if y<x then y else x)):=by simp[QU]
def afX(k:IntKind)(x:W3):W3:=match x with
 |some (.i _ n)=>some (.i k (k.wrap n))
 |_=>none
@[simp] theorem aHX{k:IntKind}{a:Nat}:(Nd.conv k a).den I val=afX k (val a):=rfl
@[simp] theorem aGV{k c:IntKind}{n:Int}:afX k (some (.i c n))=some (.i k (k.wrap n)):=rfl
def len1(x:W3):W3:=match x with
 |some (.l c)=>some (.i .i64 c.length)
 |_=>none
@[simp] theorem aH1{a:Nat}:(Nd.len a).den I val=len1 (val a):=rfl
@[simp] theorem aHI{xs:Q1}:len1 (some (.l xs))=some (.i .i64 xs.length):=rfl
def alo(x:W3):W3:=match x with
 |some (.s x)=>some (.i .i64 x.length)
 |_=>none
@[simp] theorem aId{a:Nat}:(Nd.slen a).den I val=alo (val a):=rfl
@[simp] theorem aIw{x:Q0}:alo (some (.s x))=some (.i .i64 x.length):=rfl
def ac0(x i:W3):W3:=match x,i with
 |some (.s x),some (.i _ k)=>if 0<=k then match x[k.toNat]? with
  |some c=>some (.i .u8 c.toNat)
  |none=>none
  else none
 |_,_=>none
@[simp] theorem aIc{a i:Nat}:(Nd.H6 a i).den I val=ac0 (val a) (val i):=rfl
@[simp] theorem aIv{x:Q0}{d:IntKind}{k:Int}:ac0 (some (.s x)) (some (.i d k))=if 0<=k then(x[k.toNat]?).bind λc=>some (.i .u8 c.toNat)else none:=by
 simp only[ac0];split
 ·cases x[k.toNat]?<;>rfl
 ·rfl
def alA(x lo hi:W3):W3:=match x,lo,hi with
 |some (.s x),some (.i _ l),some (.i _ h)=>if 0<=l/\l<=h/\h<=x.length then some (.s ((x.take h.toNat).drop l.toNat))else none
 |_,_,_=>none
@[simp] theorem aIe{a l h:Nat}:(Nd.H7 a l h).den I val=alA (val a) (val l) (val h):=rfl
def aja(z m k:W3):W3:=match z,m,k with
 |some d,some (.l c),some g=>some ((fZ g c).getD d)
 |_,_,_=>none
def ajb(m k:W3):W3:=match m,k with
 |some (.l c),some g=>some (.b (fZ g c).isSome)
 |_,_=>none
def ajf(m k v:W3):W3:=match m,k,v with
 |some (.l c),some g,some u=>some (.l (ku g u c))
 |_,_,_=>none
@[simp] theorem aH3{z m k:Nat}:(Nd.He z m k).den I val=aja (val z) (val m) (val k):=rfl
@[simp] theorem aH4{m k:Nat}:(Nd.Hf m k).den I val=ajb (val m) (val k):=rfl
@[simp] theorem aH8{m k v:Nat}:(Nd.Dc m k v).den I val=ajf (val m) (val k) (val v):=rfl
@[simp] theorem aHJ{d g:GV}{xs:Q1}:aja (some d) (some (.l xs)) (some g)=some ((fZ g xs).getD d):=rfl
@[simp] theorem aHK{g:GV}{xs:Q1}:ajb (some (.l xs)) (some g)=some (.b (fZ g xs).isSome):=rfl
@[simp] theorem aHN{g u:GV}{xs:Q1}:ajf (some (.l xs)) (some g) (some u)=some (.l (ku g u xs)):=rfl
@[simp] theorem aIB{x:Q0}{k c:IntKind}{l h:Int}:alA (some (.s x)) (some (.i k l)) (some (.i c h))=if 0<=l/\l<=h/\h<=x.length then some (.s ((x.take h.toNat).drop l.toNat))else none:=rfl
def NH(size:Nat)(x lo hi:W3):W3:=match x,lo,hi with
 |some (.l c),some (.i _ l),some (.i _ h)=>if 0<=l/\l<=h/\h<=c.length/\(c.all λx=>Nat.beq x.cells.length size)=true then some (.l ((c.take h.toNat).drop l.toNat))else none
 |_,_,_=>none
@[simp] theorem aH2{s a l h:Nat}:(Nd.EH s a l h).den I val=NH s (val a) (val l) (val h):=rfl
@[simp] theorem mY{s:Nat}{xs:Q1}{k c:IntKind}{l h:Int}:NH s (some (.l xs)) (some (.i k l)) (some (.i c h))=if 0<=l/\l<=h/\h<=xs.length/\(xs.all λx=>Nat.beq x.cells.length s)=true then some (.l ((xs.take h.toNat).drop l.toNat))else none:=rfl
def Ey(x i:W3):W3:=match x,i with
 |some (.l c),some (.i _ k)=>if 0<=k/\k<c.length then some (.i .i64 k)else none
 |_,_=>none
@[simp] theorem aHZ{a i:Nat}:(Nd.idx a i).den I val=Ey (val a) (val i):=rfl
@[simp] theorem jF{xs:Q1}{c:IntKind}{k:Int}:Ey (some (.l xs)) (some (.i c k))=if 0<=k/\k<xs.length then some (.i .i64 k)else none:=rfl
def at2(size:Nat)(x i:W3):W3:=match x,i with
 |some (.l c),some (.i _ k)=>if 0<=k then match c[k.toNat]? with
  |some x=>if x.cells.length=size then some x else none
  |none=>none
  else none
 |_,_=>none
@[simp] theorem aHP{s a i:Nat}:(Nd.at s a i).den I val=at2 s (val a) (val i):=rfl
@[simp] theorem eF{s:Nat}{xs:Q1}{c:IntKind}{k:Int}:at2 s (some (.l xs)) (some (.i c k))=if 0<=k then(xs[k.toNat]?).bind λx=>if x.cells.length=s then some x else none else none:=by
 simp only[at2];split
 ·cases xs[k.toNat]?<;>rfl
 ·rfl
def cell1(off:Nat)(x:W3):W3:=match x with
 |some g=>match g.cells[off]? with
  |some c=>if c.scalar then some c else none
  |none=>none
 |none=>none
@[simp] theorem aHV{o a:Nat}:(Nd.cell o a).den I val=cell1 o (val a):=rfl
@[simp] theorem aGP{o:Nat}{g:GV}:cell1 o (some g)=(g.cells[o]?).bind λc=>if c.scalar=true then some c else none:=by simp only[cell1];cases g.cells[o]?<;>rfl
@[simp] theorem aH5{l:Q2}:(Nd.mk l).den I val=(valsOf val l).bind λgs=>if gs.all GV.scalar=true then some (.g gs)else none:=by simp only[Nd.den];cases valsOf val l<;>rfl
@[simp] theorem aH6{l:Q2}:(Nd.ml l).den I val=(valsOf val l).bind λgs=>some (.l gs):=by simp only[Nd.den];cases valsOf val l<;>rfl
def IQ(size e:Nat)(x y:W3):W3:=match x,y with
 |some (.l d),some (.l c)=>if c.all (GV.fP size)=true/\2*(d.length+c.length)*e<=2^48/\d.length+c.length<=2^48 then some (.l (d++c))else none
 |_,_=>none
@[simp] theorem aHO{z s a b:Nat}:(Nd.app z s a b).den I val=IQ z s (val a) (val b):=rfl
@[simp] theorem FZ{z s:Nat}{xs c:Q1}:IQ z s (some (.l xs)) (some (.l c))=if c.all (GV.fP z)=true/\2*(xs.length+c.length)*s<=2^48/\xs.length+c.length<=2^48 then some (.l (xs++c))else none:=rfl
def FB(size off:Nat)(x i:W3)(vs:Wo):W3:=match x,i,vs with
 |some (.l c),some (.i _ k),some d=>if 0<=k/\d.all GV.scalar=true then match c[k.toNat]? with
  |some x=>if x.cells.length=size then(x.put off d).map λy=>.l (c.set k.toNat y)else none
  |none=>none
  else none
 |_,_,_=>none
@[simp] theorem aIh{s o a i:Nat}{vs:Q2}:(Nd.upd s o a i vs).den I val=FB s o (val a) (val i) (valsOf val vs):=rfl
@[simp] theorem uZ{s o:Nat}{xs:Q1}{c:IntKind}{k:Int}{gs:Q1}:FB s o (some (.l xs)) (some (.i c k)) (some gs)=if 0<=k/\gs.all GV.scalar=true then(xs[k.toNat]?).bind λx=>if x.cells.length=s then(x.put o gs).map λy=>.l (xs.set k.toNat y)else none else none:=by
 simp only[FB];split
 ·cases xs[k.toNat]?<;>rfl
 ·rfl
@[simp] theorem aIm{k:IntKind}{n:Int}{v:GV}:(GV.i k n).put 0 [v]=some v:=rfl
def akB(size d:Nat)(z l c:W3):W3:=match z,l,c with
 |some x,some (.i _ n),some (.i _ m)=>if 0<=n/\n<=m/\d*m<=2^48/\m<=2^60/\x.fP size=true then some (.l (List.replicate n.toNat x))else none
 |_,_,_=>none
@[simp] theorem aH9{s b z l c:Nat}:(Nd.rep s b z l c).den I val=akB s b (val z) (val l) (val c):=rfl
@[simp] theorem aIn{s b:Nat}{x:GV}{k c:IntKind}{n m:Int}:akB s b (some x) (some (.i k n)) (some (.i c m))=if 0<=n/\n<=m/\b*m<=2^48/\m<=2^60/\x.fP s=true then some (.l (List.replicate n.toNat x))else none:=by cases x<;>rfl
@[simp] theorem aHT{a:Nat}:(Nd.bytes a).den I val=(val a).bind λg=>match g with|.s x=>some (.l (dh x))|_=>none:=by
 simp only[Nd.den];cases val a with
 |none=>rfl
 |some g=>cases g<;>rfl
@[simp] theorem aIf{a:Nat}:(Nd.str a).den I val=(val a).bind λg=>match g with|.l xs=>if xs.length<=2^48 then(ou xs).map .s else none|_=>none:=by
 simp only[Nd.den];cases val a with
 |none=>rfl
 |some g=>cases g<;>rfl
@[simp] theorem aIa{a b:Nat}:(Nd.same a b).den I val=(val a).bind λg=>(val b).bind λh=>match g,h with|.l xs,.l c=>if c.length=xs.length then some (.l c)else none|_,_=>none:=by
 simp only[Nd.den];cases val a with
 |none=>rfl
 |some g=>cases val b with
  |none=>cases g<;>rfl
  |some h=>cases g<;>cases h<;>rfl
@[simp] theorem aH0{a j:Nat}:(Nd.Bd a j).den I val=(val a).bind λg=>match g with|.i _ m=>some (.b (decide (m=(j:Int))))|_=>none:=by
 simp only[Nd.den];cases val a with
 |none=>rfl
 |some g=>cases g<;>rfl
@[simp] theorem aIb{a:Nat}:(Nd.HY a).den I val=(val a).bind λg=>match g with|.s x=>some (.s x)|_=>none:=by
 simp only[Nd.den];cases val a with
 |none=>rfl
 |some g=>cases g<;>rfl
end
section
variable{k:IntKind}{a b:Int}
@[simp] theorem aGj:iT .add (some (.i k a)) (some (.i k b))=some (.i k (k.wrap (a+b))):=by simp[iT,iJ,bV]
@[simp] theorem aGE:iT .sub (some (.i k a)) (some (.i k b))=some (.i k (k.wrap (a-b))):=by simp[iT,iJ,bV]
@[simp] theorem aGq:iT .mul (some (.i k a)) (some (.i k b))=some (.i k (k.wrap (a*b))):=by simp[iT,iJ,bV]
@[simp] theorem aGt:iT .quo (some (.i k a)) (some (.i k b))=if b=0 then none else some (.i k (k.wrap (a.tdiv b))):=by simp[iT,iJ,bV]
@[simp] theorem aGu:iT .rem (some (.i k a)) (some (.i k b))=if b=0 then none else some (.i k (a.tmod b)):=by simp[iT,iJ,bV]
@[simp] theorem aGl:iT .eql (some (.i k a)) (some (.i k b))=some (.b (decide (a=b))):=by simp only[iT,iJ,bV,if_true];rw[show(a==b)=decide (a=b)from rfl]
@[simp] theorem aGr:iT .neq (some (.i k a)) (some (.i k b))=some (.b (decide (a≠b))):=by simp only[iT,iJ,bV,if_true,bne];rw[show(a==b)=decide (a=b)from rfl,<-decide_not]
@[simp] theorem aGp:iT .lss (some (.i k a)) (some (.i k b))=some (.b (decide (a<b))):=by simp[iT,iJ,bV]
@[simp] theorem aGo:iT .leq (some (.i k a)) (some (.i k b))=some (.b (decide (a<=b))):=by simp[iT,iJ,bV]
@[simp] theorem aGn:iT .gtr (some (.i k a)) (some (.i k b))=some (.b (decide (b<a))):=by simp[iT,iJ,bV]
@[simp] theorem aGm:iT .geq (some (.i k a)) (some (.i k b))=some (.b (decide (b<=a))):=by simp[iT,iJ,bV]
@[simp] theorem aGk:iT .and (some (.i k a)) (some (.i k b))=bV .and k a b:=by simp[iT,iJ]
@[simp] theorem aGs:iT .or (some (.i k a)) (some (.i k b))=bV .or k a b:=by simp[iT,iJ]
@[simp] theorem aGF:iT .xor (some (.i k a)) (some (.i k b))=bV .xor k a b:=by simp[iT,iJ]
@[simp] theorem aGz{c:IntKind}:iT .shl (some (.i k a)) (some (.i c b))=kD .shl k a b:=rfl
@[simp] theorem aGA{c:IntKind}:iT .shr (some (.i k a)) (some (.i c b))=kD .shr k a b:=rfl
end
section
variable{a b:Q0}
@[simp] theorem aGv:iT .add (some (.s a)) (some (.s b))=if((a.length+b.length:Nat):Int)<=9223372036854775807 then some (.s (a++b))else none:=by simp only[iT,iJ,yE];rfl
@[simp] theorem aGw:iT .eql (some (.s a)) (some (.s b))=some (.b (decide (a=b))):=by simp only[iT,iJ,yE];congr 2;rw[yI];simp
@[simp] theorem aGD:iT .neq (some (.s a)) (some (.s b))=some (.b (decide (a≠b))):=by simp only[iT,iJ,yE];congr 2;rw[yI];simp
@[simp] theorem aGC:iT .lss (some (.s a)) (some (.s b))=some (.b (Op.bytesLess a b)):=rfl
@[simp] theorem aGx:iT .geq (some (.s a)) (some (.s b))=some (.b (!(Op.bytesLess a b))):=rfl
@[simp] theorem aGB:iT .leq (some (.s a)) (some (.s b))=some (.b (Op.bytesLess a b ||a==b)):=rfl
@[simp] theorem aGy:iT .gtr (some (.s a)) (some (.s b))=some (.b (!(Op.bytesLess a b ||a==b))):=rfl
end
@[simp] theorem aGG{a b:Bool}:Y8 .eql (some (.b a)) (some (.b b))=some (.b (a==b)):=rfl
@[simp] theorem aGH{a b:Bool}:Y8 .neq (some (.b a)) (some (.b b))=some (.b (!(a==b))):=rfl
@[simp] theorem aGI{c:Q2}{a b:Q1}:Py .eql c (some (.g a)) (some (.g b))=(oD c a b).bind λr=>some (.b r):=by simp only[Py,Md];cases oD c a b<;>rfl
@[simp] theorem aGJ{c:Q2}{a b:Q1}:Py .neq c (some (.g a)) (some (.g b))=(oD c a b).bind λr=>some (.b (!r)):=by simp only[Py,Md];cases oD c a b<;>rfl
@[simp] theorem aIH{a:Bool}:X7 .not (some (.b a))=some (.b (!a)):=rfl
@[simp] theorem aIG{k:IntKind}{a:Int}:X7 .neg (some (.i k a))=some (.i k (k.wrap (0-a))):=rfl
@[simp] theorem an8{cs:Q1}:(GV.g cs).cells=cs:=rfl
@[simp] theorem aGR{k:IntKind}{n:Int}:(GV.i k n).cells=[.i k n]:=rfl
@[simp] theorem aGQ{x:Bool}:(GV.b x).cells=[.b x]:=rfl
@[simp] theorem aGT{x:Q0}:(GV.s x).cells=[.s x]:=rfl
@[simp] theorem aGS{x:Q1}:(GV.l x).cells=[.l x]:=rfl
@[simp] theorem aIr{cs:Q1}:(GV.g cs).scalar=false:=rfl
@[simp] theorem aIs{k:IntKind}{n:Int}:(GV.i k n).scalar=true:=rfl
@[simp] theorem aIq{x:Bool}:(GV.b x).scalar=true:=rfl
@[simp] theorem aIu{x:Q0}:(GV.s x).scalar=true:=rfl
@[simp] theorem aIt{x:Q1}:(GV.l x).scalar=true:=rfl
def Vr{Ds:W8}{k:Nat}{d e:WK}{t:Tree}{gs c:Q1}(g:Ds[k]? =some (.fn d e t))(hi:oW d gs=true)(h:t.go (vF Ds).lim gs.length (Po gs)=some c)(i:oW e c=true):(vF Ds).lim k gs=some c:=by have h:t.den (vF Ds).lim gs=some c:=(Tree.Qo t gs).symm.trans h;exact JF g (by simp only[aF.den,aj hi,h,aj i])
def jm{Ds:W8}{k n:Nat}{t:Tree}{gs c:Q1}(d:Ds[k]? =some (.tree n t))(e:gs.length=n)(h:t.go (vF Ds).lim gs.length (Po gs)=some c):(vF Ds).lim k gs=some c:=by have h:t.den (vF Ds).lim gs=some c:=(Tree.Qo t gs).symm.trans h;exact JF d (by simp only[aF.den,aj e,h])
def aT{Ds:W8}{k:Nat}{d e:WK}{t:Tree}{gs c:Q1}(h:t.go (vF Ds).lim gs.length (Po gs)=some c)(g:Ds[k]? =some (.fn d e t):=by exact rfl)(hi:oW d gs=true:=by exact rfl)(i:oW e c=true:=by exact rfl):(vF Ds).lim k gs=some c:=Vr g hi h i
def au{Ds:W8}{k n:Nat}{t:Tree}{gs c:Q1}(h:t.go (vF Ds).lim gs.length (Po gs)=some c)(d:Ds[k]? =some (.tree n t):=by exact rfl)(e:gs.length=n:=by exact rfl):(vF Ds).lim k gs=some c:=jm d e h
def ig{α:Type}{l:List α}{i:Nat}(h:l.length<=i:=by omega):l.drop i=[]:=Io h
abbrev GV.zu(n:Int):GV:=.i .u64 n
abbrev GV.zq(n:Int):GV:=.i .i64 n
def dA{α:Sort _}{c:Prop}{_:Decidable c}{a b:α}(h:¬c:=by omega):ite c a b=b:=ah h
def nI{α:Sort _}{c:Prop}{_:Decidable c}{a b:α}(h:c:=by omega):ite c a b=a:=aj h
def Bz{Ds:W8}{k:Nat}{f:Q1->Option Q1}{gs c:Q1}(d:Ds[k]? =some (.aP f))(h:f gs=some c):(vF Ds).lim k gs=some c:=
 JF d h
def avf{gs:Q1}(h:hasArgs [] gs):gs=[]:=by simpa only[hasArgs]using h
def ahG{l:WF}{r:List (Bool×WF)}{gs:Q1}(h:hasArgs ((true,l)::r) gs):∃cs c,gs=.g cs::c/\bU.jo l cs/\hasArgs r c:=by
 simp only[hasArgs]at h;obtain⟨g,c,rfl,d,e,i⟩:=h;cases g<;>simp[GV.scalar]at e
 exact⟨_,_,rfl,d,i⟩
def qF{t:bU}{l:WF}{gs:Q1}(h:bU.jo (t::l) gs):∃g r,gs=g::r/\t.has g/\bU.jo l r:=by simpa only[bU.jo]using h
def Nr{gs:Q1}(h:bU.jo [] gs):gs=[]:=by simpa only[bU.jo]using h
def aat{t:bU}{r:List (Bool×WF)}{gs:Q1}(h:hasArgs ((false,[t])::r) gs):∃g c,gs=g::c/\t.has g/\hasArgs r c:=by simp only[hasArgs]at h;obtain⟨g,c,rfl,d,i,j⟩:=h;refine⟨_,_,rfl,?_,j⟩;obtain⟨g0,r0,e,m,n⟩:=qF d;cases g<;>simp[GV.scalar]at i<;>simp only[GV.cells,xH]at e<;>rw[e.1]<;>exact m
def Jv{g:GV}(h:(bU.int .u64).has g):∃n,g=.i .u64 n/\0<=n/\n<18446744073709551616:=by simp only[bU.has]at h;obtain⟨n,rfl,c,d⟩:=h;exact⟨n,rfl,by simpa[IntKind.min,IntKind.signed]using c,by simp[IntKind.max,IntKind.signed,IntKind.bits]at d;omega⟩
def ahH{g:GV}(h:bU.str.has g):∃s,g=.s s/\s.length<=reachBytes:=by simpa only[bU.has]using h
def VJ{b:Bool}{e:WF}{g:GV}(h:(bU.list b e).has g):∃xs,g=.l xs/\xs.length<=reachBytes/\∀x∈xs,bU.jo e x.cells/\x.scalar = !b:=by simpa only[bU.has]using h
def QL{α:Type}{f:α->GV}{p:α->Prop}:∀{xs:Q1},(∀x∈xs,∃r,p r/\x=f r)->∃rs:List α,(∀r∈rs,p r)/\xs=rs.map f
 |[],_=>⟨[],by simp,rfl⟩
 |x::xs,h=>by
  obtain⟨r,h1,d⟩:=h x (by simp);obtain⟨rs,e,g⟩:=QL (xs:=xs) λy i=>h y (by simp[i]);refine⟨r::rs,λq c=>?_,by rw[d,g];rfl⟩;rcases bH.1 c with rfl|c
  ·exact h1
  ·exact e q c
def wrap64{n:Int}(h0: -9223372036854775808<=n)(h1:n<=9223372036854775807):IntKind.i64.wrap n=n:=by
 have:IntKind.i64.wrap n=if n%18446744073709551616>=9223372036854775808 then n%18446744073709551616-18446744073709551616 else n%18446744073709551616:=by simp[IntKind.wrap,IntKind.signed,IntKind.bits]
 rw[this];split<;>omega
def Ig{n:Int}(h0:0<=n)(h1:n<18446744073709551616):IntKind.u64.wrap n=n:=by
 have:IntKind.u64.wrap n=n%18446744073709551616:=by simp[IntKind.wrap,IntKind.signed,IntKind.bits]
 rw[this];omega
def bF(n:Int)(h0: -9223372036854775808<=n:=by omega)(c:n<=9223372036854775807:=by omega):IntKind.i64.wrap n=n:=wrap64 h0 c
def jA(n:Int)(h0:0<=n:=by omega)(c:n<18446744073709551616:=by omega):IntKind.u64.wrap n=n:=Ig h0 c
def goC(I:iO)(f:Nat)(l:Q2)(r:Wo):Tree->Nat->(Wa)->Option Q1
 |.step nd t,k,val=>match nd with
  |.call c d j=>if c=f/\d=l then(match r.bind λr=>r[j]? with
    |some g=>goC I f l r t (k+1) (upd val k g)
    |none=>none)else(Tree.step (.call c d j) t).go I k val
  |nd=>(Tree.step nd t).go I k val
 |t,k,val=>t.go I k val
def amg{val:Wa}{k:Nat}{g:GV}:∀{l:Q2},(l.all λi=>Nat.blt i k)=true->valsOf (upd val k g) l=valsOf val l
 |[],_=>rfl
 |n::l,h=>by simp only[rH,aK,jB]at h;rw[amf,amf,amg h.2,upd_ne (by omega)]
def ahm{I:iO}{f:Nat}{l:Q2}{r:Wo}:∀(t:Tree)(k:Nat)(val:Wa),(l.all λi=>Nat.blt i k)=true->(valsOf val l).bind (I f)=r->t.go I k val=goC I f l r t k val
 |.step nd t,k,val,d,m=>by
  cases nd with
  |call o c j=>
   simp only[goC];split
   ·next h=>
    obtain⟨rfl,rfl⟩:=h;rw[aEV,ax7];have e:((valsOf val c).bind λp=>(I o p).bind λr=>r[j]?)=r.bind λr=>r[j]?:=by rw[<-m];cases valsOf val c<;>rfl
    rw[e];cases r.bind λr=>r[j]? with
    |none=>rfl
    |some g=>
     simp only[anx];refine ahm t (k+1) (upd val k g) ?_ ?_
     ·rw[List.all_eq_true]at d⊢;intro i hi;have:=d i hi;rw[jB]at this⊢;omega
     ·rw[amg d];exact m
   ·rfl
  |_=>rfl
 |.ite n t e,k,val,_,_=>rfl
 |.ret c,k,val,_,_=>rfl
 |.tail o c,k,val,_,_=>rfl
 |.dead,k,val,_,_=>rfl
def ae8(o:W3)(I:iO)(f:Nat)(l:Q2)(r:Wo)(t:Tree)(k:Nat)(val:Wa):Wo:=match o with
 |some g=>goC I f l r t (k+1) (upd val k g)
 |none=>none
section
variable{I:iO}{f:Nat}{l:Q2}{r:Wo}{k:Nat}{val:Wa}{t:Tree}
def Qn{j:Nat}(h:(l.all λi=>decide (i<k))=true):(Tree.step (.call f l j) t).go I k val=goC I f l ((valsOf val l).bind (I f)) (.step (.call f l j) t) k val:=ahm _ _ _ (by rw[List.all_eq_true]at h⊢;intro i hi;have:=h i hi;rw[decide_eq_true_iff]at this;rw[jB];exact this) rfl
@[simp high] theorem aG9{r:Q1}{j:Nat}:goC I f l (some r) (.step (.call f l j) t) k val=ae8 (r[j]?) I f l (some r) t k val:=by simp only[goC,and_self,if_true,Aq];cases r[j]?<;>rfl
@[simp] theorem aGK{g:GV}:ae8 (some g) I f l r t k val=goC I f l r t (k+1) (upd val k g):=rfl
@[simp] theorem aHr{c j:Nat}{d:Q2}(h:¬(c=f/\d=l)):goC I f l r (.step (.call c d j) t) k val=(Tree.step (.call c d j) t).go I k val:=by simp only[goC,ah h]
@[simp] theorem aHi{n:Nat}{e:Tree}:goC I f l r (.ite n t e) k val=(Tree.ite n t e).go I k val:=rfl
@[simp] theorem aHt{c:Q2}:goC I f l r (.ret c) k val=(Tree.ret c).go I k val:=rfl
@[simp] theorem aHA{c:Nat}{d:Q2}:goC I f l r (.tail c d) k val=(Tree.tail c d).go I k val:=rfl
@[simp] theorem aHf:goC I f l r .dead k val=Tree.dead.go I k val:=rfl
@[simp] theorem aHc{y0 y1}:goC I f l r (.step (.ci y0 y1) t) k val=(Tree.step (.ci y0 y1) t).go I k val:=rfl
@[simp] theorem aHa{y0}:goC I f l r (.step (.cb y0) t) k val=(Tree.step (.cb y0) t).go I k val:=rfl
@[simp] theorem aHe{y0}:goC I f l r (.step (.cs y0) t) k val=(Tree.step (.cs y0) t).go I k val:=rfl
@[simp] theorem aG5{y0 y1 y2}:goC I f l r (.step (.bin y0 y1 y2) t) k val=(Tree.step (.bin y0 y1 y2) t).go I k val:=rfl
@[simp] theorem aG6{y0 y1 y2}:goC I f l r (.step (.F7 y0 y1 y2) t) k val=(Tree.step (.F7 y0 y1 y2) t).go I k val:=rfl
@[simp] theorem aG7{y0 y1 y2 y3}:goC I f l r (.step (.F8 y0 y1 y2 y3) t) k val=(Tree.step (.F8 y0 y1 y2 y3) t).go I k val:=rfl
@[simp] theorem aHB{y0 y1}:goC I f l r (.step (.un y0 y1) t) k val=(Tree.step (.un y0 y1) t).go I k val:=rfl
@[simp] theorem aHp{y0 y1 y2}:goC I f l r (.step (.mm y0 y1 y2) t) k val=(Tree.step (.mm y0 y1 y2) t).go I k val:=rfl
@[simp] theorem aHd{y0 y1}:goC I f l r (.step (.conv y0 y1) t) k val=(Tree.step (.conv y0 y1) t).go I k val:=rfl
@[simp] theorem aHj{y0}:goC I f l r (.step (.len y0) t) k val=(Tree.step (.len y0) t).go I k val:=rfl
@[simp] theorem aHx{y0}:goC I f l r (.step (.slen y0) t) k val=(Tree.step (.slen y0) t).go I k val:=rfl
@[simp] theorem aHh{y0 y1}:goC I f l r (.step (.Bd y0 y1) t) k val=(Tree.step (.Bd y0 y1) t).go I k val:=rfl
@[simp] theorem aHw{y0 y1}:goC I f l r (.step (.H6 y0 y1) t) k val=(Tree.step (.H6 y0 y1) t).go I k val:=rfl
@[simp] theorem aHy{y0 y1 y2}:goC I f l r (.step (.H7 y0 y1 y2) t) k val=(Tree.step (.H7 y0 y1 y2) t).go I k val:=rfl
@[simp] theorem aHk{y0 y1 y2 y3}:goC I f l r (.step (.EH y0 y1 y2 y3) t) k val=(Tree.step (.EH y0 y1 y2 y3) t).go I k val:=rfl
@[simp] theorem aHg{y0 y1}:goC I f l r (.step (.idx y0 y1) t) k val=(Tree.step (.idx y0 y1) t).go I k val:=rfl
@[simp] theorem aG4{y0 y1 y2}:goC I f l r (.step (.at y0 y1 y2) t) k val=(Tree.step (.at y0 y1 y2) t).go I k val:=rfl
@[simp] theorem aHb{y0 y1}:goC I f l r (.step (.cell y0 y1) t) k val=(Tree.step (.cell y0 y1) t).go I k val:=rfl
@[simp] theorem aHn{y0}:goC I f l r (.step (.mk y0) t) k val=(Tree.step (.mk y0) t).go I k val:=rfl
@[simp] theorem aHo{y0}:goC I f l r (.step (.ml y0) t) k val=(Tree.step (.ml y0) t).go I k val:=rfl
@[simp] theorem aG3{y0 y1 y2 y3}:goC I f l r (.step (.app y0 y1 y2 y3) t) k val=(Tree.step (.app y0 y1 y2 y3) t).go I k val:=rfl
@[simp] theorem aHC{y0 y1 y2 y3 y4}:goC I f l r (.step (.upd y0 y1 y2 y3 y4) t) k val=(Tree.step (.upd y0 y1 y2 y3 y4) t).go I k val:=rfl
@[simp] theorem aHs{y0 y1 y2 y3 y4}:goC I f l r (.step (.rep y0 y1 y2 y3 y4) t) k val=(Tree.step (.rep y0 y1 y2 y3 y4) t).go I k val:=rfl
@[simp] theorem aG8{y0}:goC I f l r (.step (.bytes y0) t) k val=(Tree.step (.bytes y0) t).go I k val:=rfl
@[simp] theorem aHz{y0}:goC I f l r (.step (.str y0) t) k val=(Tree.step (.str y0) t).go I k val:=rfl
@[simp] theorem aHu{y0 y1}:goC I f l r (.step (.same y0 y1) t) k val=(Tree.step (.same y0 y1) t).go I k val:=rfl
@[simp] theorem aHv{y0}:goC I f l r (.step (.HY y0) t) k val=(Tree.step (.HY y0) t).go I k val:=rfl
@[simp] theorem aHl{y0 y1 y2}:goC I f l r (.step (.He y0 y1 y2) t) k val=(Tree.step (.He y0 y1 y2) t).go I k val:=rfl
@[simp] theorem aHm{y0 y1}:goC I f l r (.step (.Hf y0 y1) t) k val=(Tree.step (.Hf y0 y1) t).go I k val:=rfl
@[simp] theorem aHq{y0 y1 y2}:goC I f l r (.step (.Dc y0 y1 y2) t) k val=(Tree.step (.Dc y0 y1 y2) t).go I k val:=rfl
