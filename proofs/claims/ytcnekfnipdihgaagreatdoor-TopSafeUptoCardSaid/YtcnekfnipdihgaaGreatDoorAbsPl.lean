/- Plain laws over trees: values of one's own as ground values; how a tree is gone through. -/
import Derived.Test.YtcnekfnipdihgaaGreatDoorAbsJ
set_option linter.all false
namespace Go.aP
def JU{Ds:Wb}{k:Nat}{d:aH}{gs c:Q3}(e:Ds[k]? =some d)(h:d.den (vU Ds).lim gs=some c):(vU Ds).lim k gs=some c:=jg.awS e h
def upd(val:Wc)(k:Nat)(g:GV):Nat->Option GV:=λn=>if n=k then some g else val n
def Qe(gs:Q3):Nat->Option GV:=λn=>gs[n]?
@[simp] theorem aF7{gs:Q3}{n:Nat}:Qe gs n=gs[n]?:=rfl
@[simp] theorem upd_same{val:Wc}{k:Nat}{g:GV}:upd val k g k=some g:=au rfl
@[simp] theorem upd_ne{val:Wc}{k n:Nat}{g:GV}(h:n≠k):upd val k g n=val n:=aj h
def Tree.go(I:je):Tree->Nat->(Wc)->Option Q3
 |.step nd t,k,val=>match nd.den I val with
  |some g=>t.go I (k+1) (upd val k g)
  |none=>none
 |.ite n t e,k,val=>match val n with
  |some (.b true)=>t.go I k val
  |some (.b false)=>e.go I k val
  |_=>none
 |.ret l,_,val=>valsOf val l
 |.tail f l,_,val=>match valsOf val l with
  |some gs=>I f gs
  |none=>none
 |.dead,_,_=>none
def Tree.QZ{I:je}:∀(t:Tree)(c:Q3),t.go I c.length (λn=>c[n]?)=t.den I c
 |.step nd t,c=>by
  simp only[Tree.go,Tree.den];cases nd.den I λn=>c[n]? with
  |none=>rfl
  |some g=>
   simp only;rw[<-Tree.QZ t (c++[g])];congr 1
   ·simp
   ·funext n;unfold upd;split
    ·next h=>subst h;simp
    ·next h=>
     show c[n]? =(c++[g])[n]?
     rcases xY n c.length with d|d
     ·rw[oG d]
     ·rw[xW d,wV (l:=c) d,wV];simp;omega
 |.ite n t e,c=>by simp only[Tree.go,Tree.den,Tree.QZ t c,Tree.QZ e c];rfl
 |.ret l,c=>rfl
 |.tail f l,c=>rfl
 |.dead,c=>rfl
def afB(o:W5)(I:je)(t:Tree)(k:Nat)(val:Wc):Wt:=match o with
 |some g=>t.go I (k+1) (upd val k g)
 |none=>none
def agt(o:W5)(I:je)(t e:Tree)(k:Nat)(val:Wc):Wt:=match o with
 |some (.b true)=>t.go I k val
 |some (.b false)=>e.go I k val
 |_=>none
section
variable{I:je}{k:Nat}{val:Wc}
@[simp] theorem an1{g:GV}{t:Tree}:afB (some g) I t k val=t.go I (k+1) (upd val k g):=rfl
@[simp] theorem aGJ{c:Bool}{t e:Tree}:agt (some (.b c)) I t e k val=if c=true then t.go I k val else e.go I k val:=by cases c<;>rfl
@[simp] theorem aEE{nd:Nd}{t:Tree}:(Tree.step nd t).go I k val=afB (nd.den I val) I t k val:=rfl
@[simp] theorem aIs{n:Nat}{t e:Tree}:(Tree.ite n t e).go I k val=agt (val n) I t e k val:=rfl
@[simp] theorem aIt{l:Q4}:(Tree.ret l).go I k val=valsOf val l:=rfl
@[simp] theorem aIr:Tree.dead.go I k val=none:=rfl
@[simp] theorem aIu{f:Nat}{l:Q4}:(Tree.tail f l).go I k val=(valsOf val l).bind (I f):=by simp only[Tree.go];cases valsOf val l<;>rfl
end
@[simp] theorem ax5{I:je}{f j:Nat}{l:Q4}{val:Wc}:(Nd.call f l j).den I val=(valsOf val l).bind λgs=>(I f gs).bind λr=>r[j]?:=by
 simp only[Nd.den];cases valsOf val l with
 |none=>rfl
 |some gs=>simp only[AU];cases I f gs<;>rfl
@[simp] theorem aIx{val:Wc}:valsOf val []=some []:=rfl
@[simp] theorem amN{val:Wc}{n:Nat}{l:Q4}:valsOf val (n::l)=(val n).bind λg=>(valsOf val l).bind λr=>some (g::r):=by simp only[valsOf];cases val n<;>cases valsOf val l<;>rfl
def jh(c:BinOp)(x y:W5):W5:=match x,y with
 |some a,some b=>iV c a b
 |_,_=>none
def ZL(c:BinOp)(x y:W5):W5:=match x,y with
 |some a,some b=>U2 c a b
 |_,_=>none
def Qj(c:BinOp)(d:Q4)(x y:W5):W5:=match x,y with
 |some a,some b=>MW c d a b
 |_,_=>none
def YK(c:UnOp)(x:W5):W5:=match x with
 |some a=>Lp c a
 |none=>none
section
variable{I:je}{val:Wc}
@[simp] theorem aHL{k:IntKind}{n:Int}:(Nd.ci k n).den I val=some (.i k n):=rfl
@[simp] theorem aHJ{x:Bool}:(Nd.cb x).den I val=some (.b x):=rfl
@[simp] theorem aHN{x:Q2}:(Nd.cs x).den I val=some (.s x):=rfl
@[simp] theorem aHF{c:BinOp}{a b:Nat}:(Nd.bin c a b).den I val=jh c (val a) (val b):=rfl
@[simp] theorem aHG{c:BinOp}{a b:Nat}:(Nd.Gq c a b).den I val=ZL c (val a) (val b):=rfl
@[simp] theorem aHH{c:BinOp}{d:Q4}{a b:Nat}:(Nd.Gs c d a b).den I val=Qj c d (val a) (val b):=rfl
@[simp] theorem aH5{c:UnOp}{a:Nat}:(Nd.un c a).den I val=YK c (val a):=rfl
def RV(c:Bool)(x y:W5):W5:=match x,y with
 |some (.i k x),some (.i d y)=>if k=d then some (.i k (if c then(if x<y then y else x)else(if y<x then y else x)))else none
 |_,_=>none
@[simp] theorem aHW{g:Bool}{a b:Nat}:(Nd.mm g a b).den I val=RV g (val a) (val b):=rfl
@[simp] theorem aHB{k:IntKind}{x y:Int}:RV true (some (.i k x)) (some (.i k y))=some (.i k (if x<y then y else x)):=by simp[RV]
@[simp] theorem aHA{k:IntKind}{x y:Int}:RV false (some (.i k x)) (some (.i k y))=some (.i k (if y<x then y else x)):=by simp[RV]
def agv(k:IntKind)(x:W5):W5:=match x with
 |some (.i _ n)=>some (.i k (k.wrap n))
 |_=>none
@[simp] theorem aHM{k:IntKind}{a:Nat}:(Nd.conv k a).den I val=agv k (val a):=rfl
@[simp] theorem aGK{k c:IntKind}{n:Int}:agv k (some (.i c n))=some (.i k (k.wrap n)):=rfl
def len1(x:W5):W5:=match x with
 |some (.l c)=>some (.i .i64 c.length)
 |_=>none
@[simp] theorem aHQ{a:Nat}:(Nd.len a).den I val=len1 (val a):=rfl
@[simp] theorem aHx{xs:Q3}:len1 (some (.l xs))=some (.i .i64 xs.length):=rfl
def alT(x:W5):W5:=match x with
 |some (.s x)=>some (.i .i64 x.length)
 |_=>none
@[simp] theorem aH2{a:Nat}:(Nd.slen a).den I val=alT (val a):=rfl
@[simp] theorem aIl{x:Q2}:alT (some (.s x))=some (.i .i64 x.length):=rfl
def adz(x i:W5):W5:=match x,i with
 |some (.s x),some (.i _ k)=>if 0<=k then match x[k.toNat]? with
  |some c=>some (.i .u8 c.toNat)
  |none=>none
  else none
 |_,_=>none
@[simp] theorem aH1{a i:Nat}:(Nd.Ij a i).den I val=adz (val a) (val i):=rfl
@[simp] theorem aIk{x:Q2}{d:IntKind}{k:Int}:adz (some (.s x)) (some (.i d k))=if 0<=k then(x[k.toNat]?).bind λc=>some (.i .u8 c.toNat)else none:=by
 simp only[adz];split
 ·cases x[k.toNat]?<;>rfl
 ·rfl
def al3(x lo hi:W5):W5:=match x,lo,hi with
 |some (.s x),some (.i _ l),some (.i _ h)=>if 0<=l/\l<=h/\h<=x.length then some (.s ((x.take h.toNat).drop l.toNat))else none
 |_,_,_=>none
@[simp] theorem aH3{a l h:Nat}:(Nd.Ik a l h).den I val=al3 (val a) (val l) (val h):=rfl
def ajE(z m k:W5):W5:=match z,m,k with
 |some d,some (.l c),some g=>some ((gy g c).getD d)
 |_,_,_=>none
def ajF(m k:W5):W5:=match m,k with
 |some (.l c),some g=>some (.b (gy g c).isSome)
 |_,_=>none
def ajJ(m k v:W5):W5:=match m,k,v with
 |some (.l c),some g,some u=>some (.l (kK g u c))
 |_,_,_=>none
@[simp] theorem aHS{z m k:Nat}:(Nd.HY z m k).den I val=ajE (val z) (val m) (val k):=rfl
@[simp] theorem aHT{m k:Nat}:(Nd.H6 m k).den I val=ajF (val m) (val k):=rfl
@[simp] theorem aHX{m k v:Nat}:(Nd.Dq m k v).den I val=ajJ (val m) (val k) (val v):=rfl
@[simp] theorem aHy{d g:GV}{xs:Q3}:ajE (some d) (some (.l xs)) (some g)=some ((gy g xs).getD d):=rfl
@[simp] theorem aHz{g:GV}{xs:Q3}:ajF (some (.l xs)) (some g)=some (.b (gy g xs).isSome):=rfl
@[simp] theorem aHC{g u:GV}{xs:Q3}:ajJ (some (.l xs)) (some g) (some u)=some (.l (kK g u xs)):=rfl
@[simp] theorem aIq{x:Q2}{k c:IntKind}{l h:Int}:al3 (some (.s x)) (some (.i k l)) (some (.i c h))=if 0<=l/\l<=h/\h<=x.length then some (.s ((x.take h.toNat).drop l.toNat))else none:=rfl
def Oe(size:Nat)(x lo hi:W5):W5:=match x,lo,hi with
 |some (.l c),some (.i _ l),some (.i _ h)=>if 0<=l/\l<=h/\h<=c.length/\(c.all λx=>Nat.beq x.cells.length size)=true then some (.l ((c.take h.toNat).drop l.toNat))else none
 |_,_,_=>none
@[simp] theorem aHR{s a l h:Nat}:(Nd.ES s a l h).den I val=Oe s (val a) (val l) (val h):=rfl
@[simp] theorem nI{s:Nat}{xs:Q3}{k c:IntKind}{l h:Int}:Oe s (some (.l xs)) (some (.i k l)) (some (.i c h))=if 0<=l/\l<=h/\h<=xs.length/\(xs.all λx=>Nat.beq x.cells.length s)=true then some (.l ((xs.take h.toNat).drop l.toNat))else none:=rfl
def EL(x i:W5):W5:=match x,i with
 |some (.l c),some (.i _ k)=>if 0<=k/\k<c.length then some (.i .i64 k)else none
 |_,_=>none
@[simp] theorem aHO{a i:Nat}:(Nd.idx a i).den I val=EL (val a) (val i):=rfl
@[simp] theorem jQ{xs:Q3}{c:IntKind}{k:Int}:EL (some (.l xs)) (some (.i c k))=if 0<=k/\k<xs.length then some (.i .i64 k)else none:=rfl
def at2(size:Nat)(x i:W5):W5:=match x,i with
 |some (.l c),some (.i _ k)=>if 0<=k then match c[k.toNat]? with
  |some x=>if x.cells.length=size then some x else none
  |none=>none
  else none
 |_,_=>none
@[simp] theorem aHE{s a i:Nat}:(Nd.at s a i).den I val=at2 s (val a) (val i):=rfl
@[simp] theorem dA{s:Nat}{xs:Q3}{c:IntKind}{k:Int}:at2 s (some (.l xs)) (some (.i c k))=if 0<=k then(xs[k.toNat]?).bind λx=>if x.cells.length=s then some x else none else none:=by
 simp only[at2];split
 ·cases xs[k.toNat]?<;>rfl
 ·rfl
def cell1(off:Nat)(x:W5):W5:=match x with
 |some g=>match g.cells[off]? with
  |some c=>if c.scalar then some c else none
  |none=>none
 |none=>none
@[simp] theorem aHK{o a:Nat}:(Nd.cell o a).den I val=cell1 o (val a):=rfl
@[simp] theorem aGE{o:Nat}{g:GV}:cell1 o (some g)=(g.cells[o]?).bind λc=>if c.scalar=true then some c else none:=by simp only[cell1];cases g.cells[o]?<;>rfl
@[simp] theorem aHU{l:Q4}:(Nd.mk l).den I val=(valsOf val l).bind λgs=>if gs.all GV.scalar=true then some (.g gs)else none:=by simp only[Nd.den];cases valsOf val l<;>rfl
@[simp] theorem aHV{l:Q4}:(Nd.ml l).den I val=(valsOf val l).bind λgs=>some (.l gs):=by simp only[Nd.den];cases valsOf val l<;>rfl
def Gl(size e:Nat)(x y:W5):W5:=match x,y with
 |some (.l d),some (.l c)=>if c.all (GV.gu size)=true/\2*(d.length+c.length)*e<=2^48/\d.length+c.length<=2^48 then some (.l (d++c))else none
 |_,_=>none
@[simp] theorem aHD{z s a b:Nat}:(Nd.app z s a b).den I val=Gl z s (val a) (val b):=rfl
@[simp] theorem nY{z s:Nat}{xs c:Q3}:Gl z s (some (.l xs)) (some (.l c))=if c.all (GV.gu z)=true/\2*(xs.length+c.length)*s<=2^48/\xs.length+c.length<=2^48 then some (.l (xs++c))else none:=rfl
def FU(size off:Nat)(x i:W5)(vs:Wt):W5:=match x,i,vs with
 |some (.l c),some (.i _ k),some d=>if 0<=k/\d.all GV.scalar=true then match c[k.toNat]? with
  |some x=>if x.cells.length=size then(x.put off d).map λy=>.l (c.set k.toNat y)else none
  |none=>none
  else none
 |_,_,_=>none
@[simp] theorem aH6{s o a i:Nat}{vs:Q4}:(Nd.upd s o a i vs).den I val=FU s o (val a) (val i) (valsOf val vs):=rfl
@[simp] theorem vN{s o:Nat}{xs:Q3}{c:IntKind}{k:Int}{gs:Q3}:FU s o (some (.l xs)) (some (.i c k)) (some gs)=if 0<=k/\gs.all GV.scalar=true then(xs[k.toNat]?).bind λx=>if x.cells.length=s then(x.put o gs).map λy=>.l (xs.set k.toNat y)else none else none:=by
 simp only[FU];split
 ·cases xs[k.toNat]?<;>rfl
 ·rfl
@[simp] theorem aIb{k:IntKind}{n:Int}{v:GV}:(GV.i k n).put 0 [v]=some v:=rfl
def ak8(size d:Nat)(z l c:W5):W5:=match z,l,c with
 |some x,some (.i _ n),some (.i _ m)=>if 0<=n/\n<=m/\d*m<=2^48/\m<=2^60/\x.gu size=true then some (.l (List.replicate n.toNat x))else none
 |_,_,_=>none
@[simp] theorem aHY{s b z l c:Nat}:(Nd.rep s b z l c).den I val=ak8 s b (val z) (val l) (val c):=rfl
@[simp] theorem aIc{s b:Nat}{x:GV}{k c:IntKind}{n m:Int}:ak8 s b (some x) (some (.i k n)) (some (.i c m))=if 0<=n/\n<=m/\b*m<=2^48/\m<=2^60/\x.gu s=true then some (.l (List.replicate n.toNat x))else none:=by cases x<;>rfl
@[simp] theorem aHI{a:Nat}:(Nd.bytes a).den I val=(val a).bind λg=>match g with|.s x=>some (.l (dH x))|_=>none:=by
 simp only[Nd.den];cases val a with
 |none=>rfl
 |some g=>cases g<;>rfl
@[simp] theorem aH4{a:Nat}:(Nd.str a).den I val=(val a).bind λg=>match g with|.l xs=>if xs.length<=2^48 then(oJ xs).map .s else none|_=>none:=by
 simp only[Nd.den];cases val a with
 |none=>rfl
 |some g=>cases g<;>rfl
@[simp] theorem aHZ{a b:Nat}:(Nd.same a b).den I val=(val a).bind λg=>(val b).bind λh=>match g,h with|.l xs,.l c=>if c.length=xs.length then some (.l c)else none|_,_=>none:=by
 simp only[Nd.den];cases val a with
 |none=>rfl
 |some g=>cases val b with
  |none=>cases g<;>rfl
  |some h=>cases g<;>cases h<;>rfl
@[simp] theorem aHP{a j:Nat}:(Nd.BA a j).den I val=(val a).bind λg=>match g with|.i _ m=>some (.b (decide (m=(j:Int))))|_=>none:=by
 simp only[Nd.den];cases val a with
 |none=>rfl
 |some g=>cases g<;>rfl
@[simp] theorem aH0{a:Nat}:(Nd.Ii a).den I val=(val a).bind λg=>match g with|.s x=>some (.s x)|_=>none:=by
 simp only[Nd.den];cases val a with
 |none=>rfl
 |some g=>cases g<;>rfl
end
section
variable{k:IntKind}{a b:Int}
@[simp] theorem aF8:jh .add (some (.i k a)) (some (.i k b))=some (.i k (k.wrap (a+b))):=by simp[jh,iV,dh]
@[simp] theorem aGt:jh .sub (some (.i k a)) (some (.i k b))=some (.i k (k.wrap (a-b))):=by simp[jh,iV,dh]
@[simp] theorem aGf:jh .mul (some (.i k a)) (some (.i k b))=some (.i k (k.wrap (a*b))):=by simp[jh,iV,dh]
@[simp] theorem aGi:jh .quo (some (.i k a)) (some (.i k b))=if b=0 then none else some (.i k (k.wrap (a.tdiv b))):=by simp[jh,iV,dh]
@[simp] theorem aGj:jh .rem (some (.i k a)) (some (.i k b))=if b=0 then none else some (.i k (a.tmod b)):=by simp[jh,iV,dh]
@[simp] theorem aGa:jh .eql (some (.i k a)) (some (.i k b))=some (.b (decide (a=b))):=by simp only[jh,iV,dh,if_true];rw[show(a==b)=decide (a=b)from rfl]
@[simp] theorem aGg:jh .neq (some (.i k a)) (some (.i k b))=some (.b (decide (a≠b))):=by simp only[jh,iV,dh,if_true,bne];rw[show(a==b)=decide (a=b)from rfl,<-decide_not]
@[simp] theorem aGe:jh .lss (some (.i k a)) (some (.i k b))=some (.b (decide (a<b))):=by simp[jh,iV,dh]
@[simp] theorem aGd:jh .leq (some (.i k a)) (some (.i k b))=some (.b (decide (a<=b))):=by simp[jh,iV,dh]
@[simp] theorem aGc:jh .gtr (some (.i k a)) (some (.i k b))=some (.b (decide (b<a))):=by simp[jh,iV,dh]
@[simp] theorem aGb:jh .geq (some (.i k a)) (some (.i k b))=some (.b (decide (b<=a))):=by simp[jh,iV,dh]
@[simp] theorem aF9:jh .and (some (.i k a)) (some (.i k b))=dh .and k a b:=by simp[jh,iV]
@[simp] theorem aGh:jh .or (some (.i k a)) (some (.i k b))=dh .or k a b:=by simp[jh,iV]
@[simp] theorem aGu:jh .xor (some (.i k a)) (some (.i k b))=dh .xor k a b:=by simp[jh,iV]
@[simp] theorem aGo{c:IntKind}:jh .shl (some (.i k a)) (some (.i c b))=kM .shl k a b:=rfl
@[simp] theorem aGp{c:IntKind}:jh .shr (some (.i k a)) (some (.i c b))=kM .shr k a b:=rfl
end
section
variable{a b:Q2}
@[simp] theorem aGk:jh .add (some (.s a)) (some (.s b))=if((a.length+b.length:Nat):Int)<=9223372036854775807 then some (.s (a++b))else none:=by simp only[jh,iV,yO];rfl
@[simp] theorem aGl:jh .eql (some (.s a)) (some (.s b))=some (.b (decide (a=b))):=by simp only[jh,iV,yO];congr 2;rw[yR];simp
@[simp] theorem aGs:jh .neq (some (.s a)) (some (.s b))=some (.b (decide (a≠b))):=by simp only[jh,iV,yO];congr 2;rw[yR];simp
@[simp] theorem aGr:jh .lss (some (.s a)) (some (.s b))=some (.b (Op.bytesLess a b)):=rfl
@[simp] theorem aGm:jh .geq (some (.s a)) (some (.s b))=some (.b (!(Op.bytesLess a b))):=rfl
@[simp] theorem aGq:jh .leq (some (.s a)) (some (.s b))=some (.b (Op.bytesLess a b ||a==b)):=rfl
@[simp] theorem aGn:jh .gtr (some (.s a)) (some (.s b))=some (.b (!(Op.bytesLess a b ||a==b))):=rfl
end
@[simp] theorem aGv{a b:Bool}:ZL .eql (some (.b a)) (some (.b b))=some (.b (a==b)):=rfl
@[simp] theorem aGw{a b:Bool}:ZL .neq (some (.b a)) (some (.b b))=some (.b (!(a==b))):=rfl
@[simp] theorem aGx{c:Q4}{a b:Q3}:Qj .eql c (some (.g a)) (some (.g b))=(oM c a b).bind λr=>some (.b r):=by simp only[Qj,MW];cases oM c a b<;>rfl
@[simp] theorem aGy{c:Q4}{a b:Q3}:Qj .neq c (some (.g a)) (some (.g b))=(oM c a b).bind λr=>some (.b (!r)):=by simp only[Qj,MW];cases oM c a b<;>rfl
@[simp] theorem aIw{a:Bool}:YK .not (some (.b a))=some (.b (!a)):=rfl
@[simp] theorem aIv{k:IntKind}{a:Int}:YK .neg (some (.i k a))=some (.i k (k.wrap (0-a))):=rfl
@[simp] theorem aoA{cs:Q3}:(GV.g cs).cells=cs:=rfl
@[simp] theorem aGG{k:IntKind}{n:Int}:(GV.i k n).cells=[.i k n]:=rfl
@[simp] theorem aGF{x:Bool}:(GV.b x).cells=[.b x]:=rfl
@[simp] theorem aGI{x:Q2}:(GV.s x).cells=[.s x]:=rfl
@[simp] theorem aGH{x:Q3}:(GV.l x).cells=[.l x]:=rfl
@[simp] theorem aIg{cs:Q3}:(GV.g cs).scalar=false:=rfl
@[simp] theorem aIh{k:IntKind}{n:Int}:(GV.i k n).scalar=true:=rfl
@[simp] theorem aIf{x:Bool}:(GV.b x).scalar=true:=rfl
@[simp] theorem aIj{x:Q2}:(GV.s x).scalar=true:=rfl
@[simp] theorem aIi{x:Q3}:(GV.l x).scalar=true:=rfl
def V3{Ds:Wb}{k:Nat}{d e:WP}{t:Tree}{gs c:Q3}(g:Ds[k]? =some (.fn d e t))(hi:pK d gs=true)(h:t.go (vU Ds).lim gs.length (Qe gs)=some c)(i:pK e c=true):(vU Ds).lim k gs=some c:=by have h:t.den (vU Ds).lim gs=some c:=(Tree.QZ t gs).symm.trans h;exact JU g (by simp only[aH.den,au hi,h,au i])
def jC{Ds:Wb}{k n:Nat}{t:Tree}{gs c:Q3}(d:Ds[k]? =some (.tree n t))(e:gs.length=n)(h:t.go (vU Ds).lim gs.length (Qe gs)=some c):(vU Ds).lim k gs=some c:=by have h:t.den (vU Ds).lim gs=some c:=(Tree.QZ t gs).symm.trans h;exact JU d (by simp only[aH.den,au e,h])
def aV{Ds:Wb}{k:Nat}{d e:WP}{t:Tree}{gs c:Q3}(h:t.go (vU Ds).lim gs.length (Qe gs)=some c)(g:Ds[k]? =some (.fn d e t):=by exact rfl)(hi:pK d gs=true:=by exact rfl)(i:pK e c=true:=by exact rfl):(vU Ds).lim k gs=some c:=V3 g hi h i
def aB{Ds:Wb}{k n:Nat}{t:Tree}{gs c:Q3}(h:t.go (vU Ds).lim gs.length (Qe gs)=some c)(d:Ds[k]? =some (.tree n t):=by exact rfl)(e:gs.length=n:=by exact rfl):(vU Ds).lim k gs=some c:=jC d e h
def iE{α:Type}{l:List α}{i:Nat}(h:l.length<=i:=by omega):l.drop i=[]:=IJ h
abbrev GV.zu(n:Int):GV:=.i .u64 n
abbrev GV.zq(n:Int):GV:=.i .i64 n
def dL{α:Sort _}{c:Prop}{_:Decidable c}{a b:α}(h:¬c:=by omega):ite c a b=b:=aj h
def lM{α:Sort _}{c:Prop}{_:Decidable c}{a b:α}(h:c:=by omega):ite c a b=a:=au h
def BN{Ds:Wb}{k:Nat}{f:Q3->Option Q3}{gs c:Q3}(d:Ds[k]? =some (.uH f))(h:f gs=some c):(vU Ds).lim k gs=some c:=
 JU d h
def avg{gs:Q3}(h:hasArgs [] gs):gs=[]:=by simpa only[hasArgs]using h
def aib{l:WN}{r:List (Bool×WN)}{gs:Q3}(h:hasArgs ((true,l)::r) gs):∃cs c,gs=.g cs::c/\cO.jD l cs/\hasArgs r c:=by
 simp only[hasArgs]at h;obtain⟨g,c,rfl,d,e,i⟩:=h;cases g<;>simp[GV.scalar]at e
 exact⟨_,_,rfl,d,i⟩
def qL{t:cO}{l:WN}{gs:Q3}(h:cO.jD (t::l) gs):∃g r,gs=g::r/\t.has g/\cO.jD l r:=by simpa only[cO.jD]using h
def NV{gs:Q3}(h:cO.jD [] gs):gs=[]:=by simpa only[cO.jD]using h
def aaY{t:cO}{r:List (Bool×WN)}{gs:Q3}(h:hasArgs ((false,[t])::r) gs):∃g c,gs=g::c/\t.has g/\hasArgs r c:=by simp only[hasArgs]at h;obtain⟨g,c,rfl,d,i,j⟩:=h;refine⟨_,_,rfl,?_,j⟩;obtain⟨g0,r0,e,m,n⟩:=qL d;cases g<;>simp[GV.scalar]at i<;>simp only[GV.cells,xU]at e<;>rw[e.1]<;>exact m
def JH{g:GV}(h:(cO.int .u64).has g):∃n,g=.i .u64 n/\0<=n/\n<18446744073709551616:=by simp only[cO.has]at h;obtain⟨n,rfl,c,d⟩:=h;exact⟨n,rfl,by simpa[IntKind.min,IntKind.signed]using c,by simp[IntKind.max,IntKind.signed,IntKind.bits]at d;omega⟩
def aic{g:GV}(h:cO.str.has g):∃s,g=.s s/\s.length<=reachBytes:=by simpa only[cO.has]using h
def Wy{b:Bool}{e:WN}{g:GV}(h:(cO.list b e).has g):∃xs,g=.l xs/\xs.length<=reachBytes/\∀x∈xs,cO.jD e x.cells/\x.scalar = !b:=by simpa only[cO.has]using h
def RH{α:Type}{f:α->GV}{p:α->Prop}:∀{xs:Q3},(∀x∈xs,∃r,p r/\x=f r)->∃rs:List α,(∀r∈rs,p r)/\xs=rs.map f
 |[],_=>⟨[],aA,rfl⟩
 |x::xs,h=>by
  obtain⟨r,h1,d⟩:=h x aA;obtain⟨rs,e,g⟩:=RH (xs:=xs) λy i=>h y (by simp[i]);refine⟨r::rs,λq c=>?_,by rw[d,g];rfl⟩;rcases bJ.1 c with rfl|c
  ·exact h1
  ·exact e q c
def wrap64{n:Int}(h0: -9223372036854775808<=n)(h1:n<=9223372036854775807):IntKind.i64.wrap n=n:=by
 have:IntKind.i64.wrap n=if n%18446744073709551616>=9223372036854775808 then n%18446744073709551616-18446744073709551616 else n%18446744073709551616:=by simp[IntKind.wrap,IntKind.signed,IntKind.bits]
 rw[this];split<;>omega
def Iw{n:Int}(h0:0<=n)(h1:n<18446744073709551616):IntKind.u64.wrap n=n:=by
 have:IntKind.u64.wrap n=n%18446744073709551616:=by simp[IntKind.wrap,IntKind.signed,IntKind.bits]
 rw[this];omega
def bI(n:Int)(h0: -9223372036854775808<=n:=by omega)(c:n<=9223372036854775807:=by omega):IntKind.i64.wrap n=n:=wrap64 h0 c
def jL(n:Int)(h0:0<=n:=by omega)(c:n<18446744073709551616:=by omega):IntKind.u64.wrap n=n:=Iw h0 c
def goC(I:je)(f:Nat)(l:Q4)(r:Wt):Tree->Nat->(Wc)->Option Q3
 |.step nd t,k,val=>match nd with
  |.call c d j=>if c=f/\d=l then(match r.bind λr=>r[j]? with
    |some g=>goC I f l r t (k+1) (upd val k g)
    |none=>none)else(Tree.step (.call c d j) t).go I k val
  |nd=>(Tree.step nd t).go I k val
 |t,k,val=>t.go I k val
def amO{val:Wc}{k:Nat}{g:GV}:∀{l:Q4},(l.all λi=>Nat.blt i k)=true->valsOf (upd val k g) l=valsOf val l
 |[],_=>rfl
 |n::l,h=>by simp only[qZ,aO,jM]at h;rw[amN,amN,amO h.2,upd_ne ah]
def ahR{I:je}{f:Nat}{l:Q4}{r:Wt}:∀(t:Tree)(k:Nat)(val:Wc),(l.all λi=>Nat.blt i k)=true->(valsOf val l).bind (I f)=r->t.go I k val=goC I f l r t k val
 |.step nd t,k,val,d,m=>by
  cases nd with
  |call o c j=>
   simp only[goC];split
   ·next h=>
    obtain⟨rfl,rfl⟩:=h;rw[aEE,ax5];have e:((valsOf val c).bind λp=>(I o p).bind λr=>r[j]?)=r.bind λr=>r[j]?:=by rw[<-m];cases valsOf val c<;>rfl
    rw[e];cases r.bind λr=>r[j]? with
    |none=>rfl
    |some g=>
     simp only[an1];refine ahR t (k+1) (upd val k g) ?_ ?_
     ·rw[List.all_eq_true]at d⊢;intro i hi;have:=d i hi;rw[jM]at this⊢;omega
     ·rw[amO d];exact m
   ·rfl
  |_=>rfl
 |.ite n t e,k,val,_,_=>rfl
 |.ret c,k,val,_,_=>rfl
 |.tail o c,k,val,_,_=>rfl
 |.dead,k,val,_,_=>rfl
def afA(o:W5)(I:je)(f:Nat)(l:Q4)(r:Wt)(t:Tree)(k:Nat)(val:Wc):Wt:=match o with
 |some g=>goC I f l r t (k+1) (upd val k g)
 |none=>none
section
variable{I:je}{f:Nat}{l:Q4}{r:Wt}{k:Nat}{val:Wc}{t:Tree}
def QY{j:Nat}(h:(l.all λi=>decide (i<k))=true):(Tree.step (.call f l j) t).go I k val=goC I f l ((valsOf val l).bind (I f)) (.step (.call f l j) t) k val:=ahR _ _ _ (by rw[List.all_eq_true]at h⊢;intro i hi;have:=h i hi;rw[decide_eq_true_iff]at this;rw[jM];exact this) rfl
@[simp high] theorem aGY{r:Q3}{j:Nat}:goC I f l (some r) (.step (.call f l j) t) k val=afA (r[j]?) I f l (some r) t k val:=by simp only[goC,and_self,if_true,AU];cases r[j]?<;>rfl
@[simp] theorem aGz{g:GV}:afA (some g) I f l r t k val=goC I f l r t (k+1) (upd val k g):=rfl
@[simp] theorem aHg{c j:Nat}{d:Q4}(h:¬(c=f/\d=l)):goC I f l r (.step (.call c d j) t) k val=(Tree.step (.call c d j) t).go I k val:=by simp only[goC,aj h]
@[simp] theorem aG7{n:Nat}{e:Tree}:goC I f l r (.ite n t e) k val=(Tree.ite n t e).go I k val:=rfl
@[simp] theorem aHi{c:Q4}:goC I f l r (.ret c) k val=(Tree.ret c).go I k val:=rfl
@[simp] theorem aHp{c:Nat}{d:Q4}:goC I f l r (.tail c d) k val=(Tree.tail c d).go I k val:=rfl
@[simp] theorem aG4:goC I f l r .dead k val=Tree.dead.go I k val:=rfl
@[simp] theorem aG1{y0 y1}:goC I f l r (.step (.ci y0 y1) t) k val=(Tree.step (.ci y0 y1) t).go I k val:=rfl
@[simp] theorem aGZ{y0}:goC I f l r (.step (.cb y0) t) k val=(Tree.step (.cb y0) t).go I k val:=rfl
@[simp] theorem aG3{y0}:goC I f l r (.step (.cs y0) t) k val=(Tree.step (.cs y0) t).go I k val:=rfl
@[simp] theorem aGU{y0 y1 y2}:goC I f l r (.step (.bin y0 y1 y2) t) k val=(Tree.step (.bin y0 y1 y2) t).go I k val:=rfl
@[simp] theorem aGV{y0 y1 y2}:goC I f l r (.step (.Gq y0 y1 y2) t) k val=(Tree.step (.Gq y0 y1 y2) t).go I k val:=rfl
@[simp] theorem aGW{y0 y1 y2 y3}:goC I f l r (.step (.Gs y0 y1 y2 y3) t) k val=(Tree.step (.Gs y0 y1 y2 y3) t).go I k val:=rfl
@[simp] theorem aHq{y0 y1}:goC I f l r (.step (.un y0 y1) t) k val=(Tree.step (.un y0 y1) t).go I k val:=rfl
@[simp] theorem aHe{y0 y1 y2}:goC I f l r (.step (.mm y0 y1 y2) t) k val=(Tree.step (.mm y0 y1 y2) t).go I k val:=rfl
@[simp] theorem aG2{y0 y1}:goC I f l r (.step (.conv y0 y1) t) k val=(Tree.step (.conv y0 y1) t).go I k val:=rfl
@[simp] theorem aG8{y0}:goC I f l r (.step (.len y0) t) k val=(Tree.step (.len y0) t).go I k val:=rfl
@[simp] theorem aHm{y0}:goC I f l r (.step (.slen y0) t) k val=(Tree.step (.slen y0) t).go I k val:=rfl
@[simp] theorem aG6{y0 y1}:goC I f l r (.step (.BA y0 y1) t) k val=(Tree.step (.BA y0 y1) t).go I k val:=rfl
@[simp] theorem aHl{y0 y1}:goC I f l r (.step (.Ij y0 y1) t) k val=(Tree.step (.Ij y0 y1) t).go I k val:=rfl
@[simp] theorem aHn{y0 y1 y2}:goC I f l r (.step (.Ik y0 y1 y2) t) k val=(Tree.step (.Ik y0 y1 y2) t).go I k val:=rfl
@[simp] theorem aG9{y0 y1 y2 y3}:goC I f l r (.step (.ES y0 y1 y2 y3) t) k val=(Tree.step (.ES y0 y1 y2 y3) t).go I k val:=rfl
@[simp] theorem aG5{y0 y1}:goC I f l r (.step (.idx y0 y1) t) k val=(Tree.step (.idx y0 y1) t).go I k val:=rfl
@[simp] theorem aGT{y0 y1 y2}:goC I f l r (.step (.at y0 y1 y2) t) k val=(Tree.step (.at y0 y1 y2) t).go I k val:=rfl
@[simp] theorem aG0{y0 y1}:goC I f l r (.step (.cell y0 y1) t) k val=(Tree.step (.cell y0 y1) t).go I k val:=rfl
@[simp] theorem aHc{y0}:goC I f l r (.step (.mk y0) t) k val=(Tree.step (.mk y0) t).go I k val:=rfl
@[simp] theorem aHd{y0}:goC I f l r (.step (.ml y0) t) k val=(Tree.step (.ml y0) t).go I k val:=rfl
@[simp] theorem aGS{y0 y1 y2 y3}:goC I f l r (.step (.app y0 y1 y2 y3) t) k val=(Tree.step (.app y0 y1 y2 y3) t).go I k val:=rfl
@[simp] theorem aHr{y0 y1 y2 y3 y4}:goC I f l r (.step (.upd y0 y1 y2 y3 y4) t) k val=(Tree.step (.upd y0 y1 y2 y3 y4) t).go I k val:=rfl
@[simp] theorem aHh{y0 y1 y2 y3 y4}:goC I f l r (.step (.rep y0 y1 y2 y3 y4) t) k val=(Tree.step (.rep y0 y1 y2 y3 y4) t).go I k val:=rfl
@[simp] theorem aGX{y0}:goC I f l r (.step (.bytes y0) t) k val=(Tree.step (.bytes y0) t).go I k val:=rfl
@[simp] theorem aHo{y0}:goC I f l r (.step (.str y0) t) k val=(Tree.step (.str y0) t).go I k val:=rfl
@[simp] theorem aHj{y0 y1}:goC I f l r (.step (.same y0 y1) t) k val=(Tree.step (.same y0 y1) t).go I k val:=rfl
@[simp] theorem aHk{y0}:goC I f l r (.step (.Ii y0) t) k val=(Tree.step (.Ii y0) t).go I k val:=rfl
@[simp] theorem aHa{y0 y1 y2}:goC I f l r (.step (.HY y0 y1 y2) t) k val=(Tree.step (.HY y0 y1 y2) t).go I k val:=rfl
@[simp] theorem aHb{y0 y1}:goC I f l r (.step (.H6 y0 y1) t) k val=(Tree.step (.H6 y0 y1) t).go I k val:=rfl
@[simp] theorem aHf{y0 y1 y2}:goC I f l r (.step (.Dq y0 y1 y2) t) k val=(Tree.step (.Dq y0 y1 y2) t).go I k val:=rfl
