/- Plain laws over trees: values of one's own as ground values; how a tree is gone through. -/
import Derived.Test.YtmkkknckcnpljaaGreatDoorAbsJ
set_option linter.all false
namespace Go.aO
def I8{Ds:W3}{k:Nat}{d:aB}{gs c:Q1}(e:Ds[k]? =some d)(h:d.den (yE Ds).lim gs=some c):(yE Ds).lim k gs=some c:=iL.auL e h
def upd(val:W8)(k:Nat)(g:GV):Nat->Option GV:=λn=>if n=k then some g else val n
def XD(gs:Q1):Nat->Option GV:=λn=>gs[n]?
@[simp] theorem aDw{gs:Q1}{n:Nat}:XD gs n=gs[n]?:=rfl
@[simp] theorem upd_same{val:W8}{k:Nat}{g:GV}:upd val k g k=some g:=aj rfl
@[simp] theorem upd_ne{val:W8}{k n:Nat}{g:GV}(h:n≠k):upd val k g n=val n:=ah h
def Tree.go(I:iG):Tree->Nat->(W8)->Option Q1
 |.step nd t,k,val=>match nd.den I val with
  |some g=>t.go I (k+1) (upd val k g)
  |none=>none
 |.ite n t e,k,val=>match val n with
  |some (.b true)=>t.go I k val
  |some (.b false)=>e.go I k val
  |_=>none
 |.ret l,_,val=>valsOf val l
 |.tail f l,_,val=>match valsOf val l with
  |some gs=>I f gs
  |none=>none
 |.dead,_,_=>none
def Tree.O0{I:iG}:∀(t:Tree)(c:Q1),t.go I c.length (λn=>c[n]?)=t.den I c
 |.step nd t,c=>by
  simp only[Tree.go,Tree.den];cases nd.den I λn=>c[n]? with
  |none=>rfl
  |some g=>
   simp only;rw[<-Tree.O0 t (c++[g])];congr 1
   ·simp
   ·funext n;unfold upd;split
    ·next h=>subst h;simp
    ·next h=>
     show c[n]? =(c++[g])[n]?
     rcases vP n c.length with d|d
     ·rw[ny d]
     ·rw[vK d,sZ (l:=c) d,sZ];simp;omega
 |.ite n t e,c=>by simp only[Tree.go,Tree.den,Tree.O0 t c,Tree.O0 e c];rfl
 |.ret l,c=>rfl
 |.tail f l,c=>rfl
 |.dead,c=>rfl
def adx(o:W0)(I:iG)(t:Tree)(k:Nat)(val:W8):Wk:=match o with
 |some g=>t.go I (k+1) (upd val k g)
 |none=>none
def aej(o:W0)(I:iG)(t e:Tree)(k:Nat)(val:W8):Wk:=match o with
 |some (.b true)=>t.go I k val
 |some (.b false)=>e.go I k val
 |_=>none
section
variable{I:iG}{k:Nat}{val:W8}
@[simp] theorem ali{g:GV}{t:Tree}:adx (some g) I t k val=t.go I (k+1) (upd val k g):=rfl
@[simp] theorem aD8{c:Bool}{t e:Tree}:aej (some (.b c)) I t e k val=if c=true then t.go I k val else e.go I k val:=by cases c<;>rfl
@[simp] theorem aB9{nd:Nd}{t:Tree}:(Tree.step nd t).go I k val=adx (nd.den I val) I t k val:=rfl
@[simp] theorem aFV{n:Nat}{t e:Tree}:(Tree.ite n t e).go I k val=aej (val n) I t e k val:=rfl
@[simp] theorem aFW{l:Q2}:(Tree.ret l).go I k val=valsOf val l:=rfl
@[simp] theorem aFU:Tree.dead.go I k val=none:=rfl
@[simp] theorem aFX{f:Nat}{l:Q2}:(Tree.tail f l).go I k val=(valsOf val l).bind (I f):=by simp only[Tree.go];cases valsOf val l<;>rfl
end
@[simp] theorem avU{I:iG}{f j:Nat}{l:Q2}{val:W8}:(Nd.call f l j).den I val=(valsOf val l).bind λgs=>(I f gs).bind λr=>r[j]?:=by
 simp only[Nd.den];cases valsOf val l with
 |none=>rfl
 |some gs=>simp only[vU];cases I f gs<;>rfl
@[simp] theorem aF0{val:W8}:valsOf val []=some []:=rfl
@[simp] theorem akc{val:W8}{n:Nat}{l:Q2}:valsOf val (n::l)=(val n).bind λg=>(valsOf val l).bind λr=>some (g::r):=by simp only[valsOf];cases val n<;>cases valsOf val l<;>rfl
def gZ(c:BinOp)(x y:W0):W0:=match x,y with
 |some a,some b=>iD c a b
 |_,_=>none
def XH(c:BinOp)(x y:W0):W0:=match x,y with
 |some a,some b=>RN c a b
 |_,_=>none
def N9(c:BinOp)(d:Q2)(x y:W0):W0:=match x,y with
 |some a,some b=>Ky c d a b
 |_,_=>none
def un1(c:UnOp)(x:W0):W0:=match x with
 |some a=>Wl c a
 |none=>none
section
variable{I:iG}{val:W8}
@[simp] theorem aFc{k:IntKind}{n:Int}:(Nd.ci k n).den I val=some (.i k n):=rfl
@[simp] theorem aFa{x:Bool}:(Nd.cb x).den I val=some (.b x):=rfl
@[simp] theorem aFe{x:Q0}:(Nd.cs x).den I val=some (.s x):=rfl
@[simp] theorem aE6{c:BinOp}{a b:Nat}:(Nd.bin c a b).den I val=gZ c (val a) (val b):=rfl
@[simp] theorem aE7{c:BinOp}{a b:Nat}:(Nd.EO c a b).den I val=XH c (val a) (val b):=rfl
@[simp] theorem aE8{c:BinOp}{d:Q2}{a b:Nat}:(Nd.EP c d a b).den I val=N9 c d (val a) (val b):=rfl
@[simp] theorem aFx{c:UnOp}{a:Nat}:(Nd.un c a).den I val=un1 c (val a):=rfl
def PO(c:Bool)(x y:W0):W0:=match x,y with
 |some (.i k x),some (.i d y)=>if k=d then some (.i k (if c then(if x<y then y else x)else(if y<x then y else x)))else none
 |_,_=>none
@[simp] theorem aFo{g:Bool}{a b:Nat}:(Nd.mm g a b).den I val=PO g (val a) (val b):=rfl
@[simp] theorem aE2{k:IntKind}{x y:Int}:PO true (some (.i k x)) (some (.i k y))=some (.i k (if x<y then y else x)):=by simp[PO]
@[simp] theorem aE1{k:IntKind}{x y:Int}:PO false (some (.i k x)) (some (.i k y))=some (.i k (if y<x then y else x)):=by simp[PO]
def ael(k:IntKind)(x:W0):W0:=match x with
 |some (.i _ n)=>some (.i k (k.wrap n))
 |_=>none
@[simp] theorem aFd{k:IntKind}{a:Nat}:(Nd.conv k a).den I val=ael k (val a):=rfl
@[simp] theorem aD9{k c:IntKind}{n:Int}:ael k (some (.i c n))=some (.i k (k.wrap n)):=rfl
def len1(x:W0):W0:=match x with
 |some (.l c)=>some (.i .i64 c.length)
 |_=>none
@[simp] theorem aFh{a:Nat}:(Nd.len a).den I val=len1 (val a):=rfl
@[simp] theorem aEY{xs:Q1}:len1 (some (.l xs))=some (.i .i64 xs.length):=rfl
def ajh(x:W0):W0:=match x with
 |some (.s x)=>some (.i .i64 x.length)
 |_=>none
@[simp] theorem aFu{a:Nat}:(Nd.slen a).den I val=ajh (val a):=rfl
@[simp] theorem aFO{x:Q0}:ajh (some (.s x))=some (.i .i64 x.length):=rfl
def abw(x i:W0):W0:=match x,i with
 |some (.s x),some (.i _ k)=>if 0<=k then match x[k.toNat]? with
  |some c=>some (.i .u8 c.toNat)
  |none=>none
  else none
 |_,_=>none
@[simp] theorem aFt{a i:Nat}:(Nd.GK a i).den I val=abw (val a) (val i):=rfl
@[simp] theorem aFN{x:Q0}{d:IntKind}{k:Int}:abw (some (.s x)) (some (.i d k))=if 0<=k then(x[k.toNat]?).bind λc=>some (.i .u8 c.toNat)else none:=by
 simp only[abw];split
 ·cases x[k.toNat]?<;>rfl
 ·rfl
def ajs(x lo hi:W0):W0:=match x,lo,hi with
 |some (.s x),some (.i _ l),some (.i _ h)=>if 0<=l/\l<=h/\h<=x.length then some (.s ((x.take h.toNat).drop l.toNat))else none
 |_,_,_=>none
@[simp] theorem aFv{a l h:Nat}:(Nd.GL a l h).den I val=ajs (val a) (val l) (val h):=rfl
def agZ(z m k:W0):W0:=match z,m,k with
 |some d,some (.l c),some g=>some ((iI g c).getD d)
 |_,_,_=>none
def ag0(m k:W0):W0:=match m,k with
 |some (.l c),some g=>some (.b (iI g c).isSome)
 |_,_=>none
def ag1(m k v:W0):W0:=match m,k,v with
 |some (.l c),some g,some u=>some (.l (lQ g u c))
 |_,_,_=>none
@[simp] theorem aFj{z m k:Nat}:(Nd.FU z m k).den I val=agZ (val z) (val m) (val k):=rfl
@[simp] theorem aFk{m k:Nat}:(Nd.FV m k).den I val=ag0 (val m) (val k):=rfl
@[simp] theorem aFp{m k v:Nat}:(Nd.BK m k v).den I val=ag1 (val m) (val k) (val v):=rfl
@[simp] theorem aEZ{d g:GV}{xs:Q1}:agZ (some d) (some (.l xs)) (some g)=some ((iI g xs).getD d):=rfl
@[simp] theorem aE0{g:GV}{xs:Q1}:ag0 (some (.l xs)) (some g)=some (.b (iI g xs).isSome):=rfl
@[simp] theorem aE3{g u:GV}{xs:Q1}:ag1 (some (.l xs)) (some g) (some u)=some (.l (lQ g u xs)):=rfl
@[simp] theorem aFT{x:Q0}{k c:IntKind}{l h:Int}:ajs (some (.s x)) (some (.i k l)) (some (.i c h))=if 0<=l/\l<=h/\h<=x.length then some (.s ((x.take h.toNat).drop l.toNat))else none:=rfl
def FP(size:Nat)(x lo hi:W0):W0:=match x,lo,hi with
 |some (.l c),some (.i _ l),some (.i _ h)=>if 0<=l/\l<=h/\h<=c.length/\(c.all λx=>Nat.beq x.cells.length size)=true then some (.l ((c.take h.toNat).drop l.toNat))else none
 |_,_,_=>none
@[simp] theorem aFi{s a l h:Nat}:(Nd.DU s a l h).den I val=FP s (val a) (val l) (val h):=rfl
@[simp] theorem nI{s:Nat}{xs:Q1}{k c:IntKind}{l h:Int}:FP s (some (.l xs)) (some (.i k l)) (some (.i c h))=if 0<=l/\l<=h/\h<=xs.length/\(xs.all λx=>Nat.beq x.cells.length s)=true then some (.l ((xs.take h.toNat).drop l.toNat))else none:=rfl
def BG(x i:W0):W0:=match x,i with
 |some (.l c),some (.i _ k)=>if 0<=k/\k<c.length then some (.i .i64 k)else none
 |_,_=>none
@[simp] theorem aFf{a i:Nat}:(Nd.idx a i).den I val=BG (val a) (val i):=rfl
@[simp] theorem jh{xs:Q1}{c:IntKind}{k:Int}:BG (some (.l xs)) (some (.i c k))=if 0<=k/\k<xs.length then some (.i .i64 k)else none:=rfl
def at2(size:Nat)(x i:W0):W0:=match x,i with
 |some (.l c),some (.i _ k)=>if 0<=k then match c[k.toNat]? with
  |some x=>if x.cells.length=size then some x else none
  |none=>none
  else none
 |_,_=>none
@[simp] theorem aE5{s a i:Nat}:(Nd.at s a i).den I val=at2 s (val a) (val i):=rfl
@[simp] theorem iC{s:Nat}{xs:Q1}{c:IntKind}{k:Int}:at2 s (some (.l xs)) (some (.i c k))=if 0<=k then(xs[k.toNat]?).bind λx=>if x.cells.length=s then some x else none else none:=by
 simp only[at2];split
 ·cases xs[k.toNat]?<;>rfl
 ·rfl
def cell1(off:Nat)(x:W0):W0:=match x with
 |some g=>match g.cells[off]? with
  |some c=>if c.scalar then some c else none
  |none=>none
 |none=>none
@[simp] theorem aFb{o a:Nat}:(Nd.cell o a).den I val=cell1 o (val a):=rfl
@[simp] theorem aD3{o:Nat}{g:GV}:cell1 o (some g)=(g.cells[o]?).bind λc=>if c.scalar=true then some c else none:=by simp only[cell1];cases g.cells[o]?<;>rfl
@[simp] theorem aFl{l:Q2}:(Nd.mk l).den I val=(valsOf val l).bind λgs=>if gs.all GV.scalar=true then some (.g gs)else none:=by simp only[Nd.den];cases valsOf val l<;>rfl
@[simp] theorem aFm{l:Q2}:(Nd.ml l).den I val=(valsOf val l).bind λgs=>some (.l gs):=by simp only[Nd.den];cases valsOf val l<;>rfl
def xO(size e:Nat)(x y:W0):W0:=match x,y with
 |some (.l d),some (.l c)=>if c.all (GV.dZ size)=true/\2*(d.length+c.length)*e<=2^48/\d.length+c.length<=2^48 then some (.l (d++c))else none
 |_,_=>none
@[simp] theorem aE4{z s a b:Nat}:(Nd.app z s a b).den I val=xO z s (val a) (val b):=rfl
@[simp] theorem rU{z s:Nat}{xs c:Q1}:xO z s (some (.l xs)) (some (.l c))=if c.all (GV.dZ z)=true/\2*(xs.length+c.length)*s<=2^48/\xs.length+c.length<=2^48 then some (.l (xs++c))else none:=rfl
def JJ(size off:Nat)(x i:W0)(vs:Wk):W0:=match x,i,vs with
 |some (.l c),some (.i _ k),some d=>if 0<=k/\d.all GV.scalar=true then match c[k.toNat]? with
  |some x=>if x.cells.length=size then(x.put off d).map λy=>.l (c.set k.toNat y)else none
  |none=>none
  else none
 |_,_,_=>none
@[simp] theorem aFy{s o a i:Nat}{vs:Q2}:(Nd.upd s o a i vs).den I val=JJ s o (val a) (val i) (valsOf val vs):=rfl
@[simp] theorem jM{s o:Nat}{xs:Q1}{c:IntKind}{k:Int}{gs:Q1}:JJ s o (some (.l xs)) (some (.i c k)) (some gs)=if 0<=k/\gs.all GV.scalar=true then(xs[k.toNat]?).bind λx=>if x.cells.length=s then(x.put o gs).map λy=>.l (xs.set k.toNat y)else none else none:=by
 simp only[JJ];split
 ·cases xs[k.toNat]?<;>rfl
 ·rfl
@[simp] theorem aFD{k:IntKind}{n:Int}{v:GV}:(GV.i k n).put 0 [v]=some v:=rfl
def aiy(size d:Nat)(z l c:W0):W0:=match z,l,c with
 |some x,some (.i _ n),some (.i _ m)=>if 0<=n/\n<=m/\d*m<=2^48/\m<=2^60/\x.dZ size=true then some (.l (List.replicate n.toNat x))else none
 |_,_,_=>none
@[simp] theorem aFq{s b z l c:Nat}:(Nd.rep s b z l c).den I val=aiy s b (val z) (val l) (val c):=rfl
@[simp] theorem aFF{s b:Nat}{x:GV}{k c:IntKind}{n m:Int}:aiy s b (some x) (some (.i k n)) (some (.i c m))=if 0<=n/\n<=m/\b*m<=2^48/\m<=2^60/\x.dZ s=true then some (.l (List.replicate n.toNat x))else none:=by cases x<;>rfl
@[simp] theorem aE9{a:Nat}:(Nd.bytes a).den I val=(val a).bind λg=>match g with|.s x=>some (.l (dw x))|_=>none:=by
 simp only[Nd.den];cases val a with
 |none=>rfl
 |some g=>cases g<;>rfl
@[simp] theorem aFw{a:Nat}:(Nd.str a).den I val=(val a).bind λg=>match g with|.l xs=>if xs.length<=2^48 then(nD xs).map .s else none|_=>none:=by
 simp only[Nd.den];cases val a with
 |none=>rfl
 |some g=>cases g<;>rfl
@[simp] theorem aFr{a b:Nat}:(Nd.same a b).den I val=(val a).bind λg=>(val b).bind λh=>match g,h with|.l xs,.l c=>if c.length=xs.length then some (.l c)else none|_,_=>none:=by
 simp only[Nd.den];cases val a with
 |none=>rfl
 |some g=>cases val b with
  |none=>cases g<;>rfl
  |some h=>cases g<;>cases h<;>rfl
@[simp] theorem aFg{a j:Nat}:(Nd.zQ a j).den I val=(val a).bind λg=>match g with|.i _ m=>some (.b (decide (m=(j:Int))))|_=>none:=by
 simp only[Nd.den];cases val a with
 |none=>rfl
 |some g=>cases g<;>rfl
@[simp] theorem aFs{a:Nat}:(Nd.GI a).den I val=(val a).bind λg=>match g with|.s x=>some (.s x)|_=>none:=by
 simp only[Nd.den];cases val a with
 |none=>rfl
 |some g=>cases g<;>rfl
end
section
variable{k:IntKind}{a b:Int}
@[simp] theorem aDy:gZ .add (some (.i k a)) (some (.i k b))=some (.i k (k.wrap (a+b))):=by simp[gZ,iD,gG]
@[simp] theorem aDS:gZ .sub (some (.i k a)) (some (.i k b))=some (.i k (k.wrap (a-b))):=by simp[gZ,iD,gG]
@[simp] theorem aDF:gZ .mul (some (.i k a)) (some (.i k b))=some (.i k (k.wrap (a*b))):=by simp[gZ,iD,gG]
@[simp] theorem aDI:gZ .quo (some (.i k a)) (some (.i k b))=if b=0 then none else some (.i k (k.wrap (a.tdiv b))):=by simp[gZ,iD,gG]
@[simp] theorem aDJ:gZ .rem (some (.i k a)) (some (.i k b))=if b=0 then none else some (.i k (a.tmod b)):=by simp[gZ,iD,gG]
@[simp] theorem aDA:gZ .eql (some (.i k a)) (some (.i k b))=some (.b (decide (a=b))):=by simp only[gZ,iD,gG,if_true];rw[show(a==b)=decide (a=b)from rfl]
@[simp] theorem aDG:gZ .neq (some (.i k a)) (some (.i k b))=some (.b (decide (a≠b))):=by simp only[gZ,iD,gG,if_true,bne];rw[show(a==b)=decide (a=b)from rfl,<-decide_not]
@[simp] theorem aDE:gZ .lss (some (.i k a)) (some (.i k b))=some (.b (decide (a<b))):=by simp[gZ,iD,gG]
@[simp] theorem aDD:gZ .leq (some (.i k a)) (some (.i k b))=some (.b (decide (a<=b))):=by simp[gZ,iD,gG]
@[simp] theorem aDC:gZ .gtr (some (.i k a)) (some (.i k b))=some (.b (decide (b<a))):=by simp[gZ,iD,gG]
@[simp] theorem aDB:gZ .geq (some (.i k a)) (some (.i k b))=some (.b (decide (b<=a))):=by simp[gZ,iD,gG]
@[simp] theorem aDz:gZ .and (some (.i k a)) (some (.i k b))=gG .and k a b:=by simp[gZ,iD]
@[simp] theorem aDH:gZ .or (some (.i k a)) (some (.i k b))=gG .or k a b:=by simp[gZ,iD]
@[simp] theorem aDT:gZ .xor (some (.i k a)) (some (.i k b))=gG .xor k a b:=by simp[gZ,iD]
@[simp] theorem aDN{c:IntKind}:gZ .shl (some (.i k a)) (some (.i c b))=oW .shl k a b:=rfl
@[simp] theorem aDO{c:IntKind}:gZ .shr (some (.i k a)) (some (.i c b))=oW .shr k a b:=rfl
end
section
variable{a b:Q0}
@[simp] theorem XG:gZ .add (some (.s a)) (some (.s b))=if((a.length+b.length:Nat):Int)<=9223372036854775807 then some (.s (a++b))else none:=by simp only[gZ,iD,xu];rfl
@[simp] theorem aDK:gZ .eql (some (.s a)) (some (.s b))=some (.b (decide (a=b))):=by simp only[gZ,iD,xu];congr 2;rw[qN];simp
@[simp] theorem aDR:gZ .neq (some (.s a)) (some (.s b))=some (.b (decide (a≠b))):=by simp only[gZ,iD,xu];congr 2;rw[qN];simp
@[simp] theorem aDQ:gZ .lss (some (.s a)) (some (.s b))=some (.b (Op.bytesLess a b)):=rfl
@[simp] theorem aDL:gZ .geq (some (.s a)) (some (.s b))=some (.b (!(Op.bytesLess a b))):=rfl
@[simp] theorem aDP:gZ .leq (some (.s a)) (some (.s b))=some (.b (Op.bytesLess a b ||a==b)):=rfl
@[simp] theorem aDM:gZ .gtr (some (.s a)) (some (.s b))=some (.b (!(Op.bytesLess a b ||a==b))):=rfl
end
@[simp] theorem aDU{a b:Bool}:XH .eql (some (.b a)) (some (.b b))=some (.b (a==b)):=rfl
@[simp] theorem aDV{a b:Bool}:XH .neq (some (.b a)) (some (.b b))=some (.b (!(a==b))):=rfl
@[simp] theorem aDW{c:Q2}{a b:Q1}:N9 .eql c (some (.g a)) (some (.g b))=(nG c a b).bind λr=>some (.b r):=by simp only[N9,Ky];cases nG c a b<;>rfl
@[simp] theorem aDX{c:Q2}{a b:Q1}:N9 .neq c (some (.g a)) (some (.g b))=(nG c a b).bind λr=>some (.b (!r)):=by simp only[N9,Ky];cases nG c a b<;>rfl
@[simp] theorem aFZ{a:Bool}:un1 .not (some (.b a))=some (.b (!a)):=rfl
@[simp] theorem aFY{k:IntKind}{a:Int}:un1 .neg (some (.i k a))=some (.i k (k.wrap (0-a))):=rfl
@[simp] theorem alH{cs:Q1}:(GV.g cs).cells=cs:=rfl
@[simp] theorem aD5{k:IntKind}{n:Int}:(GV.i k n).cells=[.i k n]:=rfl
@[simp] theorem aD4{x:Bool}:(GV.b x).cells=[.b x]:=rfl
@[simp] theorem aD7{x:Q0}:(GV.s x).cells=[.s x]:=rfl
@[simp] theorem aD6{x:Q1}:(GV.l x).cells=[.l x]:=rfl
@[simp] theorem aFJ{cs:Q1}:(GV.g cs).scalar=false:=rfl
@[simp] theorem aFK{k:IntKind}{n:Int}:(GV.i k n).scalar=true:=rfl
@[simp] theorem aFI{x:Bool}:(GV.b x).scalar=true:=rfl
@[simp] theorem aFM{x:Q0}:(GV.s x).scalar=true:=rfl
@[simp] theorem aFL{x:Q1}:(GV.l x).scalar=true:=rfl
def aG{Ds:W3}{k:Nat}{d e:WN}{t:Tree}{gs c:Q1}(g:Ds[k]? =some (.fn d e t))(hi:qh d gs=true)(h:t.go (yE Ds).lim gs.length (XD gs)=some c)(i:qh e c=true):(yE Ds).lim k gs=some c:=by have h:t.den (yE Ds).lim gs=some c:=(Tree.O0 t gs).symm.trans h;exact I8 g (by simp only[aB.den,aj hi,h,aj i])
def au{Ds:W3}{k n:Nat}{t:Tree}{gs c:Q1}(d:Ds[k]? =some (.tree n t))(e:gs.length=n)(h:t.go (yE Ds).lim gs.length (XD gs)=some c):(yE Ds).lim k gs=some c:=by have h:t.den (yE Ds).lim gs=some c:=(Tree.O0 t gs).symm.trans h;exact I8 d (by simp only[aB.den,aj e,h])
def Jr{Ds:W3}{k:Nat}{f:Q1->Option Q1}{gs c:Q1}(d:Ds[k]? =some (.fU f))(h:f gs=some c):(yE Ds).lim k gs=some c:=
 I8 d h
def atg{gs:Q1}(h:hasArgs [] gs):gs=[]:=by simpa only[hasArgs]using h
def aft{l:WD}{r:List (Bool×WD)}{gs:Q1}(h:hasArgs ((true,l)::r) gs):∃cs c,gs=.g cs::c/\cu.iZ l cs/\hasArgs r c:=by
 simp only[hasArgs]at h;obtain⟨g,c,rfl,d,e,i⟩:=h;cases g<;>simp[GV.scalar]at e
 exact⟨_,_,rfl,d,i⟩
def rZ{t:cu}{l:WD}{gs:Q1}(h:cu.iZ (t::l) gs):∃g r,gs=g::r/\t.has g/\cu.iZ l r:=by simpa only[cu.iZ]using h
def O6{gs:Q1}(h:cu.iZ [] gs):gs=[]:=by simpa only[cu.iZ]using h
def afu{t:cu}{r:List (Bool×WD)}{gs:Q1}(h:hasArgs ((false,[t])::r) gs):∃g c,gs=g::c/\t.has g/\hasArgs r c:=by simp only[hasArgs]at h;obtain⟨g,c,rfl,d,i,j⟩:=h;refine⟨_,_,rfl,?_,j⟩;obtain⟨g0,r0,e,m,n⟩:=rZ d;cases g<;>simp[GV.scalar]at i<;>simp only[GV.cells,xE]at e<;>rw[e.1]<;>exact m
def Lu{g:GV}(h:(cu.int .u64).has g):∃n,g=.i .u64 n/\0<=n/\n<18446744073709551616:=by simp only[cu.has]at h;obtain⟨n,rfl,c,d⟩:=h;exact⟨n,rfl,by simpa[IntKind.min,IntKind.signed]using c,by simp[IntKind.max,IntKind.signed,IntKind.bits]at d;omega⟩
def Uf{g:GV}(h:cu.str.has g):∃s,g=.s s/\s.length<=reachBytes:=by simpa only[cu.has]using h
def YW{b:Bool}{e:WD}{g:GV}(h:(cu.list b e).has g):∃xs,g=.l xs/\xs.length<=reachBytes/\∀x∈xs,cu.iZ e x.cells/\x.scalar = !b:=by simpa only[cu.has]using h
def UG{α:Type}{f:α->GV}{p:α->Prop}:∀{xs:Q1},(∀x∈xs,∃r,p r/\x=f r)->∃rs:List α,(∀r∈rs,p r)/\xs=rs.map f
 |[],_=>⟨[],by simp,rfl⟩
 |x::xs,h=>by
  obtain⟨r,h1,d⟩:=h x (by simp);obtain⟨rs,e,g⟩:=UG (xs:=xs) λy i=>h y (by simp[i]);refine⟨r::rs,λq c=>?_,by rw[d,g];rfl⟩;rcases bD.1 c with rfl|c
  ·exact h1
  ·exact e q c
def wrap64{n:Int}(h0: -9223372036854775808<=n)(h1:n<=9223372036854775807):IntKind.i64.wrap n=n:=by
 have:IntKind.i64.wrap n=if n%18446744073709551616>=9223372036854775808 then n%18446744073709551616-18446744073709551616 else n%18446744073709551616:=by simp[IntKind.wrap,IntKind.signed,IntKind.bits]
 rw[this];split<;>omega
def dn{n:Int}(h0:0<=n)(h1:n<18446744073709551616):IntKind.u64.wrap n=n:=by
 have:IntKind.u64.wrap n=n%18446744073709551616:=by simp[IntKind.wrap,IntKind.signed,IntKind.bits]
 rw[this];omega
def goC(I:iG)(f:Nat)(l:Q2)(r:Wk):Tree->Nat->(W8)->Option Q1
 |.step nd t,k,val=>match nd with
  |.call c d j=>if c=f/\d=l then(match r.bind λr=>r[j]? with
    |some g=>goC I f l r t (k+1) (upd val k g)
    |none=>none)else(Tree.step (.call c d j) t).go I k val
  |nd=>(Tree.step nd t).go I k val
 |t,k,val=>t.go I k val
def akd{val:W8}{k:Nat}{g:GV}:∀{l:Q2},(l.all λi=>Nat.blt i k)=true->valsOf (upd val k g) l=valsOf val l
 |[],_=>rfl
 |n::l,h=>by simp only[sW,aK,jm]at h;rw[akc,akc,akd h.2,upd_ne (by omega)]
def afl{I:iG}{f:Nat}{l:Q2}{r:Wk}:∀(t:Tree)(k:Nat)(val:W8),(l.all λi=>Nat.blt i k)=true->(valsOf val l).bind (I f)=r->t.go I k val=goC I f l r t k val
 |.step nd t,k,val,d,m=>by
  cases nd with
  |call o c j=>
   simp only[goC];split
   ·next h=>
    obtain⟨rfl,rfl⟩:=h;rw[aB9,avU];have e:((valsOf val c).bind λp=>(I o p).bind λr=>r[j]?)=r.bind λr=>r[j]?:=by rw[<-m];cases valsOf val c<;>rfl
    rw[e];cases r.bind λr=>r[j]? with
    |none=>rfl
    |some g=>
     simp only[ali];refine afl t (k+1) (upd val k g) ?_ ?_
     ·rw[List.all_eq_true]at d⊢;intro i hi;have:=d i hi;rw[jm]at this⊢;omega
     ·rw[akd d];exact m
   ·rfl
  |_=>rfl
 |.ite n t e,k,val,_,_=>rfl
 |.ret c,k,val,_,_=>rfl
 |.tail o c,k,val,_,_=>rfl
 |.dead,k,val,_,_=>rfl
def adw(o:W0)(I:iG)(f:Nat)(l:Q2)(r:Wk)(t:Tree)(k:Nat)(val:W8):Wk:=match o with
 |some g=>goC I f l r t (k+1) (upd val k g)
 |none=>none
section
variable{I:iG}{f:Nat}{l:Q2}{r:Wk}{k:Nat}{val:W8}{t:Tree}
def uh{j:Nat}(h:(l.all λi=>decide (i<k))=true):(Tree.step (.call f l j) t).go I k val=goC I f l ((valsOf val l).bind (I f)) (.step (.call f l j) t) k val:=afl _ _ _ (by rw[List.all_eq_true]at h⊢;intro i hi;have:=h i hi;rw[decide_eq_true_iff]at this;rw[jm];exact this) rfl
@[simp high] theorem aEl{r:Q1}{j:Nat}:goC I f l (some r) (.step (.call f l j) t) k val=adw (r[j]?) I f l (some r) t k val:=by simp only[goC,and_self,if_true,vU];cases r[j]?<;>rfl
@[simp] theorem aDY{g:GV}:adw (some g) I f l r t k val=goC I f l r t (k+1) (upd val k g):=rfl
@[simp] theorem aED{c j:Nat}{d:Q2}(h:¬(c=f/\d=l)):goC I f l r (.step (.call c d j) t) k val=(Tree.step (.call c d j) t).go I k val:=by simp only[goC,ah h]
@[simp] theorem aEu{n:Nat}{e:Tree}:goC I f l r (.ite n t e) k val=(Tree.ite n t e).go I k val:=rfl
@[simp] theorem aEF{c:Q2}:goC I f l r (.ret c) k val=(Tree.ret c).go I k val:=rfl
@[simp] theorem aEM{c:Nat}{d:Q2}:goC I f l r (.tail c d) k val=(Tree.tail c d).go I k val:=rfl
@[simp] theorem aEr:goC I f l r .dead k val=Tree.dead.go I k val:=rfl
@[simp] theorem aEo{y0 y1}:goC I f l r (.step (.ci y0 y1) t) k val=(Tree.step (.ci y0 y1) t).go I k val:=rfl
@[simp] theorem aEm{y0}:goC I f l r (.step (.cb y0) t) k val=(Tree.step (.cb y0) t).go I k val:=rfl
@[simp] theorem aEq{y0}:goC I f l r (.step (.cs y0) t) k val=(Tree.step (.cs y0) t).go I k val:=rfl
@[simp] theorem aEh{y0 y1 y2}:goC I f l r (.step (.bin y0 y1 y2) t) k val=(Tree.step (.bin y0 y1 y2) t).go I k val:=rfl
@[simp] theorem aEi{y0 y1 y2}:goC I f l r (.step (.EO y0 y1 y2) t) k val=(Tree.step (.EO y0 y1 y2) t).go I k val:=rfl
@[simp] theorem aEj{y0 y1 y2 y3}:goC I f l r (.step (.EP y0 y1 y2 y3) t) k val=(Tree.step (.EP y0 y1 y2 y3) t).go I k val:=rfl
@[simp] theorem aEN{y0 y1}:goC I f l r (.step (.un y0 y1) t) k val=(Tree.step (.un y0 y1) t).go I k val:=rfl
@[simp] theorem aEB{y0 y1 y2}:goC I f l r (.step (.mm y0 y1 y2) t) k val=(Tree.step (.mm y0 y1 y2) t).go I k val:=rfl
@[simp] theorem aEp{y0 y1}:goC I f l r (.step (.conv y0 y1) t) k val=(Tree.step (.conv y0 y1) t).go I k val:=rfl
@[simp] theorem aEv{y0}:goC I f l r (.step (.len y0) t) k val=(Tree.step (.len y0) t).go I k val:=rfl
@[simp] theorem aEJ{y0}:goC I f l r (.step (.slen y0) t) k val=(Tree.step (.slen y0) t).go I k val:=rfl
@[simp] theorem aEt{y0 y1}:goC I f l r (.step (.zQ y0 y1) t) k val=(Tree.step (.zQ y0 y1) t).go I k val:=rfl
@[simp] theorem aEI{y0 y1}:goC I f l r (.step (.GK y0 y1) t) k val=(Tree.step (.GK y0 y1) t).go I k val:=rfl
@[simp] theorem aEK{y0 y1 y2}:goC I f l r (.step (.GL y0 y1 y2) t) k val=(Tree.step (.GL y0 y1 y2) t).go I k val:=rfl
@[simp] theorem aEw{y0 y1 y2 y3}:goC I f l r (.step (.DU y0 y1 y2 y3) t) k val=(Tree.step (.DU y0 y1 y2 y3) t).go I k val:=rfl
@[simp] theorem aEs{y0 y1}:goC I f l r (.step (.idx y0 y1) t) k val=(Tree.step (.idx y0 y1) t).go I k val:=rfl
@[simp] theorem aEg{y0 y1 y2}:goC I f l r (.step (.at y0 y1 y2) t) k val=(Tree.step (.at y0 y1 y2) t).go I k val:=rfl
@[simp] theorem aEn{y0 y1}:goC I f l r (.step (.cell y0 y1) t) k val=(Tree.step (.cell y0 y1) t).go I k val:=rfl
@[simp] theorem aEz{y0}:goC I f l r (.step (.mk y0) t) k val=(Tree.step (.mk y0) t).go I k val:=rfl
@[simp] theorem aEA{y0}:goC I f l r (.step (.ml y0) t) k val=(Tree.step (.ml y0) t).go I k val:=rfl
@[simp] theorem aEf{y0 y1 y2 y3}:goC I f l r (.step (.app y0 y1 y2 y3) t) k val=(Tree.step (.app y0 y1 y2 y3) t).go I k val:=rfl
@[simp] theorem aEO{y0 y1 y2 y3 y4}:goC I f l r (.step (.upd y0 y1 y2 y3 y4) t) k val=(Tree.step (.upd y0 y1 y2 y3 y4) t).go I k val:=rfl
@[simp] theorem aEE{y0 y1 y2 y3 y4}:goC I f l r (.step (.rep y0 y1 y2 y3 y4) t) k val=(Tree.step (.rep y0 y1 y2 y3 y4) t).go I k val:=rfl
@[simp] theorem aEk{y0}:goC I f l r (.step (.bytes y0) t) k val=(Tree.step (.bytes y0) t).go I k val:=rfl
@[simp] theorem aEL{y0}:goC I f l r (.step (.str y0) t) k val=(Tree.step (.str y0) t).go I k val:=rfl
@[simp] theorem aEG{y0 y1}:goC I f l r (.step (.same y0 y1) t) k val=(Tree.step (.same y0 y1) t).go I k val:=rfl
@[simp] theorem aEH{y0}:goC I f l r (.step (.GI y0) t) k val=(Tree.step (.GI y0) t).go I k val:=rfl
@[simp] theorem aEx{y0 y1 y2}:goC I f l r (.step (.FU y0 y1 y2) t) k val=(Tree.step (.FU y0 y1 y2) t).go I k val:=rfl
@[simp] theorem aEy{y0 y1}:goC I f l r (.step (.FV y0 y1) t) k val=(Tree.step (.FV y0 y1) t).go I k val:=rfl
@[simp] theorem aEC{y0 y1 y2}:goC I f l r (.step (.BK y0 y1 y2) t) k val=(Tree.step (.BK y0 y1 y2) t).go I k val:=rfl
