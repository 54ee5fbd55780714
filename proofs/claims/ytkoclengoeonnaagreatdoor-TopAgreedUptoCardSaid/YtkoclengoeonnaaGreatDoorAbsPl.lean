/- Plain laws over trees: values of one's own as ground values; how a tree is gone through. -/
import Derived.Test.YtkoclengoeonnaaGreatDoorAbsJ
set_option linter.all false
namespace Go.aP
def I4{Ds:Wa}{k:Nat}{d:aH}{gs c:Q1}(e:Ds[k]? =some d)(h:d.den (uo Ds).lim gs=some c):(uo Ds).lim k gs=some c:=iP.atI e h
def upd(val:W8)(k:Nat)(g:GV):Nat->Option GV:=λn=>if n=k then some g else val n
def Oq(gs:Q1):Nat->Option GV:=λn=>gs[n]?
@[simp] theorem aCy{gs:Q1}{n:Nat}:Oq gs n=gs[n]?:=rfl
@[simp] theorem upd_same{val:W8}{k:Nat}{g:GV}:upd val k g k=some g:=au rfl
@[simp] theorem upd_ne{val:W8}{k n:Nat}{g:GV}(h:n≠k):upd val k g n=val n:=aj h
def Tree.go(I:iJ):Tree->Nat->(W8)->Option Q1
 |.step nd t,k,val=>match nd.den I val with
  |some g=>t.go I (k+1) (upd val k g)
  |none=>none
 |.ite n t e,k,val=>match val n with
  |some (.b true)=>t.go I k val
  |some (.b false)=>e.go I k val
  |_=>none
 |.ret l,_,val=>valsOf val l
 |.tail f l,_,val=>match valsOf val l with
  |some gs=>I f gs
  |none=>none
 |.dead,_,_=>none
def Tree.Pm{I:iJ}:∀(t:Tree)(c:Q1),t.go I c.length (λn=>c[n]?)=t.den I c
 |.step nd t,c=>by
  simp only[Tree.go,Tree.den];cases nd.den I λn=>c[n]? with
  |none=>rfl
  |some g=>
   simp only;rw[<-Tree.Pm t (c++[g])];congr 1
   ·simp
   ·funext n;unfold upd;split
    ·next h=>subst h;simp
    ·next h=>
     show c[n]? =(c++[g])[n]?
     rcases zM n c.length with d|d
     ·rw[mY d]
     ·rw[wE d,wG (l:=c) d,wG];simp;omega
 |.ite n t e,c=>by simp only[Tree.go,Tree.den,Tree.Pm t c,Tree.Pm e c];rfl
 |.ret l,c=>rfl
 |.tail f l,c=>rfl
 |.dead,c=>rfl
def ad4(o:W3)(I:iJ)(t:Tree)(k:Nat)(val:W8):Wo:=match o with
 |some g=>t.go I (k+1) (upd val k g)
 |none=>none
def aeR(o:W3)(I:iJ)(t e:Tree)(k:Nat)(val:W8):Wo:=match o with
 |some (.b true)=>t.go I k val
 |some (.b false)=>e.go I k val
 |_=>none
section
variable{I:iJ}{k:Nat}{val:W8}
@[simp] theorem alC{g:GV}{t:Tree}:ad4 (some g) I t k val=t.go I (k+1) (upd val k g):=rfl
@[simp] theorem aDb{c:Bool}{t e:Tree}:aeR (some (.b c)) I t e k val=if c=true then t.go I k val else e.go I k val:=by cases c<;>rfl
@[simp] theorem aBh{nd:Nd}{t:Tree}:(Tree.step nd t).go I k val=ad4 (nd.den I val) I t k val:=rfl
@[simp] theorem aEV{n:Nat}{t e:Tree}:(Tree.ite n t e).go I k val=aeR (val n) I t e k val:=rfl
@[simp] theorem aEW{l:Q2}:(Tree.ret l).go I k val=valsOf val l:=rfl
@[simp] theorem aEU:Tree.dead.go I k val=none:=rfl
@[simp] theorem aEX{f:Nat}{l:Q2}:(Tree.tail f l).go I k val=(valsOf val l).bind (I f):=by simp only[Tree.go];cases valsOf val l<;>rfl
end
@[simp] theorem au7{I:iJ}{f j:Nat}{l:Q2}{val:W8}:(Nd.call f l j).den I val=(valsOf val l).bind λgs=>(I f gs).bind λr=>r[j]?:=by
 simp only[Nd.den];cases valsOf val l with
 |none=>rfl
 |some gs=>simp only[zN];cases I f gs<;>rfl
@[simp] theorem aE0{val:W8}:valsOf val []=some []:=rfl
@[simp] theorem aks{val:W8}{n:Nat}{l:Q2}:valsOf val (n::l)=(val n).bind λg=>(valsOf val l).bind λr=>some (g::r):=by simp only[valsOf];cases val n<;>cases valsOf val l<;>rfl
def iQ(c:BinOp)(x y:W3):W3:=match x,y with
 |some a,some b=>iG c a b
 |_,_=>none
def X8(c:BinOp)(x y:W3):W3:=match x,y with
 |some a,some b=>SC c a b
 |_,_=>none
def Ox(c:BinOp)(d:Q2)(x y:W3):W3:=match x,y with
 |some a,some b=>KU c d a b
 |_,_=>none
def WY(c:UnOp)(x:W3):W3:=match x with
 |some a=>WZ c a
 |none=>none
section
variable{I:iJ}{val:W8}
@[simp] theorem aEd{k:IntKind}{n:Int}:(Nd.ci k n).den I val=some (.i k n):=rfl
@[simp] theorem aEb{x:Bool}:(Nd.cb x).den I val=some (.b x):=rfl
@[simp] theorem aEf{x:Q0}:(Nd.cs x).den I val=some (.s x):=rfl
@[simp] theorem aD7{c:BinOp}{a b:Nat}:(Nd.bin c a b).den I val=iQ c (val a) (val b):=rfl
@[simp] theorem aD8{c:BinOp}{a b:Nat}:(Nd.Fq c a b).den I val=X8 c (val a) (val b):=rfl
@[simp] theorem aD9{c:BinOp}{d:Q2}{a b:Nat}:(Nd.Fv c d a b).den I val=Ox c d (val a) (val b):=rfl
@[simp] theorem aEx{c:UnOp}{a:Nat}:(Nd.un c a).den I val=WY c (val a):=rfl
def Qb(c:Bool)(x y:W3):W3:=match x,y with
 |some (.i k x),some (.i d y)=>if k=d then some (.i k (if c then(if x<y then y else x)else(if y<x then y else x)))else none
 |_,_=>none
@[simp] theorem aEo{g:Bool}{a b:Nat}:(Nd.mm g a b).den I val=Qb g (val a) (val b):=rfl
@[simp] theorem aD3{k:IntKind}{x y:Int}:Qb true (some (.i k x)) (some (.i k y))=some (.i k (if x<y then y else x)):=by simp[Qb]
@[simp] theorem aD2{k:IntKind}{x y:Int}:Qb false (some (.i k x)) (some (.i k y))=some (.i k (if y<x then y else x)):=by simp[Qb]
def aeT(k:IntKind)(x:W3):W3:=match x with
 |some (.i _ n)=>some (.i k (k.wrap n))
 |_=>none
@[simp] theorem aEe{k:IntKind}{a:Nat}:(Nd.conv k a).den I val=aeT k (val a):=rfl
@[simp] theorem aDc{k c:IntKind}{n:Int}:aeT k (some (.i c n))=some (.i k (k.wrap n)):=rfl
def len1(x:W3):W3:=match x with
 |some (.l c)=>some (.i .i64 c.length)
 |_=>none
@[simp] theorem aEi{a:Nat}:(Nd.len a).den I val=len1 (val a):=rfl
@[simp] theorem aDZ{xs:Q1}:len1 (some (.l xs))=some (.i .i64 xs.length):=rfl
def ajy(x:W3):W3:=match x with
 |some (.s x)=>some (.i .i64 x.length)
 |_=>none
@[simp] theorem aEu{a:Nat}:(Nd.slen a).den I val=ajy (val a):=rfl
@[simp] theorem aEO{x:Q0}:ajy (some (.s x))=some (.i .i64 x.length):=rfl
def abV(x i:W3):W3:=match x,i with
 |some (.s x),some (.i _ k)=>if 0<=k then match x[k.toNat]? with
  |some c=>some (.i .u8 c.toNat)
  |none=>none
  else none
 |_,_=>none
@[simp] theorem aEt{a i:Nat}:(Nd.GN a i).den I val=abV (val a) (val i):=rfl
@[simp] theorem aEN{x:Q0}{d:IntKind}{k:Int}:abV (some (.s x)) (some (.i d k))=if 0<=k then(x[k.toNat]?).bind λc=>some (.i .u8 c.toNat)else none:=by
 simp only[abV];split
 ·cases x[k.toNat]?<;>rfl
 ·rfl
def ajK(x lo hi:W3):W3:=match x,lo,hi with
 |some (.s x),some (.i _ l),some (.i _ h)=>if 0<=l/\l<=h/\h<=x.length then some (.s ((x.take h.toNat).drop l.toNat))else none
 |_,_,_=>none
@[simp] theorem aEv{a l h:Nat}:(Nd.GU a l h).den I val=ajK (val a) (val l) (val h):=rfl
def ahJ(z m k:W3):W3:=match z,m,k with
 |some d,some (.l c),some g=>some ((iK g c).getD d)
 |_,_,_=>none
def ahK(m k:W3):W3:=match m,k with
 |some (.l c),some g=>some (.b (iK g c).isSome)
 |_,_=>none
def ahM(m k v:W3):W3:=match m,k,v with
 |some (.l c),some g,some u=>some (.l (lQ g u c))
 |_,_,_=>none
@[simp] theorem aEk{z m k:Nat}:(Nd.Gm z m k).den I val=ahJ (val z) (val m) (val k):=rfl
@[simp] theorem aEl{m k:Nat}:(Nd.Gn m k).den I val=ahK (val m) (val k):=rfl
@[simp] theorem aEp{m k v:Nat}:(Nd.Cb m k v).den I val=ahM (val m) (val k) (val v):=rfl
@[simp] theorem aD0{d g:GV}{xs:Q1}:ahJ (some d) (some (.l xs)) (some g)=some ((iK g xs).getD d):=rfl
@[simp] theorem aD1{g:GV}{xs:Q1}:ahK (some (.l xs)) (some g)=some (.b (iK g xs).isSome):=rfl
@[simp] theorem aD4{g u:GV}{xs:Q1}:ahM (some (.l xs)) (some g) (some u)=some (.l (lQ g u xs)):=rfl
@[simp] theorem aET{x:Q0}{k c:IntKind}{l h:Int}:ajK (some (.s x)) (some (.i k l)) (some (.i c h))=if 0<=l/\l<=h/\h<=x.length then some (.s ((x.take h.toNat).drop l.toNat))else none:=rfl
def P8(size:Nat)(x lo hi:W3):W3:=match x,lo,hi with
 |some (.l c),some (.i _ l),some (.i _ h)=>if 0<=l/\l<=h/\h<=c.length/\(c.all λx=>Nat.beq x.cells.length size)=true then some (.l ((c.take h.toNat).drop l.toNat))else none
 |_,_,_=>none
@[simp] theorem aEj{s a l h:Nat}:(Nd.Ef s a l h).den I val=P8 s (val a) (val l) (val h):=rfl
@[simp] theorem nI{s:Nat}{xs:Q1}{k c:IntKind}{l h:Int}:P8 s (some (.l xs)) (some (.i k l)) (some (.i c h))=if 0<=l/\l<=h/\h<=xs.length/\(xs.all λx=>Nat.beq x.cells.length s)=true then some (.l ((xs.take h.toNat).drop l.toNat))else none:=rfl
def BO(x i:W3):W3:=match x,i with
 |some (.l c),some (.i _ k)=>if 0<=k/\k<c.length then some (.i .i64 k)else none
 |_,_=>none
@[simp] theorem aEg{a i:Nat}:(Nd.idx a i).den I val=BO (val a) (val i):=rfl
@[simp] theorem iT{xs:Q1}{c:IntKind}{k:Int}:BO (some (.l xs)) (some (.i c k))=if 0<=k/\k<xs.length then some (.i .i64 k)else none:=rfl
def at2(size:Nat)(x i:W3):W3:=match x,i with
 |some (.l c),some (.i _ k)=>if 0<=k then match c[k.toNat]? with
  |some x=>if x.cells.length=size then some x else none
  |none=>none
  else none
 |_,_=>none
@[simp] theorem aD6{s a i:Nat}:(Nd.at s a i).den I val=at2 s (val a) (val i):=rfl
@[simp] theorem dw{s:Nat}{xs:Q1}{c:IntKind}{k:Int}:at2 s (some (.l xs)) (some (.i c k))=if 0<=k then(xs[k.toNat]?).bind λx=>if x.cells.length=s then some x else none else none:=by
 simp only[at2];split
 ·cases xs[k.toNat]?<;>rfl
 ·rfl
def cell1(off:Nat)(x:W3):W3:=match x with
 |some g=>match g.cells[off]? with
  |some c=>if c.scalar then some c else none
  |none=>none
 |none=>none
@[simp] theorem aEc{o a:Nat}:(Nd.cell o a).den I val=cell1 o (val a):=rfl
@[simp] theorem aC5{o:Nat}{g:GV}:cell1 o (some g)=(g.cells[o]?).bind λc=>if c.scalar=true then some c else none:=by simp only[cell1];cases g.cells[o]?<;>rfl
@[simp] theorem aEm{l:Q2}:(Nd.mk l).den I val=(valsOf val l).bind λgs=>if gs.all GV.scalar=true then some (.g gs)else none:=by simp only[Nd.den];cases valsOf val l<;>rfl
@[simp] theorem aEn{l:Q2}:(Nd.ml l).den I val=(valsOf val l).bind λgs=>some (.l gs):=by simp only[Nd.den];cases valsOf val l<;>rfl
def Oo(size e:Nat)(x y:W3):W3:=match x,y with
 |some (.l d),some (.l c)=>if c.all (GV.fQ size)=true/\2*(d.length+c.length)*e<=2^48/\d.length+c.length<=2^48 then some (.l (d++c))else none
 |_,_=>none
@[simp] theorem aD5{z s a b:Nat}:(Nd.app z s a b).den I val=Oo z s (val a) (val b):=rfl
@[simp] theorem X4{z s:Nat}{xs c:Q1}:Oo z s (some (.l xs)) (some (.l c))=if c.all (GV.fQ z)=true/\2*(xs.length+c.length)*s<=2^48/\xs.length+c.length<=2^48 then some (.l (xs++c))else none:=rfl
def CX(size off:Nat)(x i:W3)(vs:Wo):W3:=match x,i,vs with
 |some (.l c),some (.i _ k),some d=>if 0<=k/\d.all GV.scalar=true then match c[k.toNat]? with
  |some x=>if x.cells.length=size then(x.put off d).map λy=>.l (c.set k.toNat y)else none
  |none=>none
  else none
 |_,_,_=>none
@[simp] theorem aEy{s o a i:Nat}{vs:Q2}:(Nd.upd s o a i vs).den I val=CX s o (val a) (val i) (valsOf val vs):=rfl
@[simp] theorem oh{s o:Nat}{xs:Q1}{c:IntKind}{k:Int}{gs:Q1}:CX s o (some (.l xs)) (some (.i c k)) (some gs)=if 0<=k/\gs.all GV.scalar=true then(xs[k.toNat]?).bind λx=>if x.cells.length=s then(x.put o gs).map λy=>.l (xs.set k.toNat y)else none else none:=by
 simp only[CX];split
 ·cases xs[k.toNat]?<;>rfl
 ·rfl
@[simp] theorem aEE{k:IntKind}{n:Int}{v:GV}:(GV.i k n).put 0 [v]=some v:=rfl
def aiY(size d:Nat)(z l c:W3):W3:=match z,l,c with
 |some x,some (.i _ n),some (.i _ m)=>if 0<=n/\n<=m/\d*m<=2^48/\m<=2^60/\x.fQ size=true then some (.l (List.replicate n.toNat x))else none
 |_,_,_=>none
@[simp] theorem aEq{s b z l c:Nat}:(Nd.rep s b z l c).den I val=aiY s b (val z) (val l) (val c):=rfl
@[simp] theorem aEF{s b:Nat}{x:GV}{k c:IntKind}{n m:Int}:aiY s b (some x) (some (.i k n)) (some (.i c m))=if 0<=n/\n<=m/\b*m<=2^48/\m<=2^60/\x.fQ s=true then some (.l (List.replicate n.toNat x))else none:=by cases x<;>rfl
@[simp] theorem aEa{a:Nat}:(Nd.bytes a).den I val=(val a).bind λg=>match g with|.s x=>some (.l (bQ x))|_=>none:=by
 simp only[Nd.den];cases val a with
 |none=>rfl
 |some g=>cases g<;>rfl
@[simp] theorem aEw{a:Nat}:(Nd.str a).den I val=(val a).bind λg=>match g with|.l xs=>if xs.length<=2^48 then(mg xs).map .s else none|_=>none:=by
 simp only[Nd.den];cases val a with
 |none=>rfl
 |some g=>cases g<;>rfl
@[simp] theorem aEr{a b:Nat}:(Nd.same a b).den I val=(val a).bind λg=>(val b).bind λh=>match g,h with|.l xs,.l c=>if c.length=xs.length then some (.l c)else none|_,_=>none:=by
 simp only[Nd.den];cases val a with
 |none=>rfl
 |some g=>cases val b with
  |none=>cases g<;>rfl
  |some h=>cases g<;>cases h<;>rfl
@[simp] theorem aEh{a j:Nat}:(Nd.Ah a j).den I val=(val a).bind λg=>match g with|.i _ m=>some (.b (decide (m=(j:Int))))|_=>none:=by
 simp only[Nd.den];cases val a with
 |none=>rfl
 |some g=>cases g<;>rfl
@[simp] theorem aEs{a:Nat}:(Nd.GL a).den I val=(val a).bind λg=>match g with|.s x=>some (.s x)|_=>none:=by
 simp only[Nd.den];cases val a with
 |none=>rfl
 |some g=>cases g<;>rfl
end
section
variable{k:IntKind}{a b:Int}
@[simp] theorem aCz:iQ .add (some (.i k a)) (some (.i k b))=some (.i k (k.wrap (a+b))):=by simp[iQ,iG,bV]
@[simp] theorem aCU:iQ .sub (some (.i k a)) (some (.i k b))=some (.i k (k.wrap (a-b))):=by simp[iQ,iG,bV]
@[simp] theorem aCG:iQ .mul (some (.i k a)) (some (.i k b))=some (.i k (k.wrap (a*b))):=by simp[iQ,iG,bV]
@[simp] theorem aCJ:iQ .quo (some (.i k a)) (some (.i k b))=if b=0 then none else some (.i k (k.wrap (a.tdiv b))):=by simp[iQ,iG,bV]
@[simp] theorem aCK:iQ .rem (some (.i k a)) (some (.i k b))=if b=0 then none else some (.i k (a.tmod b)):=by simp[iQ,iG,bV]
@[simp] theorem aCB:iQ .eql (some (.i k a)) (some (.i k b))=some (.b (decide (a=b))):=by simp only[iQ,iG,bV,if_true];rw[show(a==b)=decide (a=b)from rfl]
@[simp] theorem aCH:iQ .neq (some (.i k a)) (some (.i k b))=some (.b (decide (a≠b))):=by simp only[iQ,iG,bV,if_true,bne];rw[show(a==b)=decide (a=b)from rfl,<-decide_not]
@[simp] theorem aCF:iQ .lss (some (.i k a)) (some (.i k b))=some (.b (decide (a<b))):=by simp[iQ,iG,bV]
@[simp] theorem aCE:iQ .leq (some (.i k a)) (some (.i k b))=some (.b (decide (a<=b))):=by simp[iQ,iG,bV]
@[simp] theorem aCD:iQ .gtr (some (.i k a)) (some (.i k b))=some (.b (decide (b<a))):=by simp[iQ,iG,bV]
@[simp] theorem aCC:iQ .geq (some (.i k a)) (some (.i k b))=some (.b (decide (b<=a))):=by simp[iQ,iG,bV]
@[simp] theorem aCA:iQ .and (some (.i k a)) (some (.i k b))=bV .and k a b:=by simp[iQ,iG]
@[simp] theorem aCI:iQ .or (some (.i k a)) (some (.i k b))=bV .or k a b:=by simp[iQ,iG]
@[simp] theorem aCV:iQ .xor (some (.i k a)) (some (.i k b))=bV .xor k a b:=by simp[iQ,iG]
@[simp] theorem aCP{c:IntKind}:iQ .shl (some (.i k a)) (some (.i c b))=jQ .shl k a b:=rfl
@[simp] theorem aCQ{c:IntKind}:iQ .shr (some (.i k a)) (some (.i c b))=jQ .shr k a b:=rfl
end
section
variable{a b:Q0}
@[simp] theorem aCL:iQ .add (some (.s a)) (some (.s b))=if((a.length+b.length:Nat):Int)<=9223372036854775807 then some (.s (a++b))else none:=by simp only[iQ,iG,xG];rfl
@[simp] theorem aCM:iQ .eql (some (.s a)) (some (.s b))=some (.b (decide (a=b))):=by simp only[iQ,iG,xG];congr 2;rw[xK];simp
@[simp] theorem aCT:iQ .neq (some (.s a)) (some (.s b))=some (.b (decide (a≠b))):=by simp only[iQ,iG,xG];congr 2;rw[xK];simp
@[simp] theorem aCS:iQ .lss (some (.s a)) (some (.s b))=some (.b (Op.bytesLess a b)):=rfl
@[simp] theorem aCN:iQ .geq (some (.s a)) (some (.s b))=some (.b (!(Op.bytesLess a b))):=rfl
@[simp] theorem aCR:iQ .leq (some (.s a)) (some (.s b))=some (.b (Op.bytesLess a b ||a==b)):=rfl
@[simp] theorem aCO:iQ .gtr (some (.s a)) (some (.s b))=some (.b (!(Op.bytesLess a b ||a==b))):=rfl
end
@[simp] theorem aCW{a b:Bool}:X8 .eql (some (.b a)) (some (.b b))=some (.b (a==b)):=rfl
@[simp] theorem aCX{a b:Bool}:X8 .neq (some (.b a)) (some (.b b))=some (.b (!(a==b))):=rfl
@[simp] theorem aCY{c:Q2}{a b:Q1}:Ox .eql c (some (.g a)) (some (.g b))=(nH c a b).bind λr=>some (.b r):=by simp only[Ox,KU];cases nH c a b<;>rfl
@[simp] theorem aCZ{c:Q2}{a b:Q1}:Ox .neq c (some (.g a)) (some (.g b))=(nH c a b).bind λr=>some (.b (!r)):=by simp only[Ox,KU];cases nH c a b<;>rfl
@[simp] theorem aEZ{a:Bool}:WY .not (some (.b a))=some (.b (!a)):=rfl
@[simp] theorem aEY{k:IntKind}{a:Int}:WY .neg (some (.i k a))=some (.i k (k.wrap (0-a))):=rfl
@[simp] theorem aC7{cs:Q1}:(GV.g cs).cells=cs:=rfl
@[simp] theorem aC8{k:IntKind}{n:Int}:(GV.i k n).cells=[.i k n]:=rfl
@[simp] theorem aC6{x:Bool}:(GV.b x).cells=[.b x]:=rfl
@[simp] theorem aDa{x:Q0}:(GV.s x).cells=[.s x]:=rfl
@[simp] theorem aC9{x:Q1}:(GV.l x).cells=[.l x]:=rfl
@[simp] theorem aEJ{cs:Q1}:(GV.g cs).scalar=false:=rfl
@[simp] theorem aEK{k:IntKind}{n:Int}:(GV.i k n).scalar=true:=rfl
@[simp] theorem aEI{x:Bool}:(GV.b x).scalar=true:=rfl
@[simp] theorem aEM{x:Q0}:(GV.s x).scalar=true:=rfl
@[simp] theorem aEL{x:Q1}:(GV.l x).scalar=true:=rfl
def Uj{Ds:Wa}{k:Nat}{d e:WF}{t:Tree}{gs c:Q1}(g:Ds[k]? =some (.fn d e t))(hi:nZ d gs=true)(h:t.go (uo Ds).lim gs.length (Oq gs)=some c)(i:nZ e c=true):(uo Ds).lim k gs=some c:=by have h:t.den (uo Ds).lim gs=some c:=(Tree.Pm t gs).symm.trans h;exact I4 g (by simp only[aH.den,au hi,h,au i])
def jd{Ds:Wa}{k n:Nat}{t:Tree}{gs c:Q1}(d:Ds[k]? =some (.tree n t))(e:gs.length=n)(h:t.go (uo Ds).lim gs.length (Oq gs)=some c):(uo Ds).lim k gs=some c:=by have h:t.den (uo Ds).lim gs=some c:=(Tree.Pm t gs).symm.trans h;exact I4 d (by simp only[aH.den,au e,h])
def aQ{Ds:Wa}{k:Nat}{d e:WF}{t:Tree}{gs c:Q1}(h:t.go (uo Ds).lim gs.length (Oq gs)=some c)(g:Ds[k]? =some (.fn d e t):=by exact rfl)(hi:nZ d gs=true:=by exact rfl)(i:nZ e c=true:=by exact rfl):(uo Ds).lim k gs=some c:=Uj g hi h i
def aB{Ds:Wa}{k n:Nat}{t:Tree}{gs c:Q1}(h:t.go (uo Ds).lim gs.length (Oq gs)=some c)(d:Ds[k]? =some (.tree n t):=by exact rfl)(e:gs.length=n:=by exact rfl):(uo Ds).lim k gs=some c:=jd d e h
def gJ{α:Type}{l:List α}{i:Nat}(h:l.length<=i:=by omega):l.drop i=[]:=Hg h
abbrev GV.zu(n:Int):GV:=.i .u64 n
abbrev GV.zq(n:Int):GV:=.i .i64 n
def eX{α:Sort _}{c:Prop}{_:Decidable c}{a b:α}(h:¬c:=by omega):ite c a b=b:=aj h
def mW{α:Sort _}{c:Prop}{_:Decidable c}{a b:α}(h:c:=by omega):ite c a b=a:=au h
def CG{Ds:Wa}{k:Nat}{f:Q1->Option Q1}{gs c:Q1}(d:Ds[k]? =some (.rM f))(h:f gs=some c):(uo Ds).lim k gs=some c:=
 I4 d h
def ar4{gs:Q1}(h:hasArgs [] gs):gs=[]:=by simpa only[hasArgs]using h
def ags{l:WK}{r:List (Bool×WK)}{gs:Q1}(h:hasArgs ((true,l)::r) gs):∃cs c,gs=.g cs::c/\bW.jq l cs/\hasArgs r c:=by
 simp only[hasArgs]at h;obtain⟨g,c,rfl,d,e,i⟩:=h;cases g<;>simp[GV.scalar]at e
 exact⟨_,_,rfl,d,i⟩
def Ad{t:bW}{l:WK}{gs:Q1}(h:bW.jq (t::l) gs):∃g r,gs=g::r/\t.has g/\bW.jq l r:=by simpa only[bW.jq]using h
def Zi{gs:Q1}(h:bW.jq [] gs):gs=[]:=by simpa only[bW.jq]using h
def Zh{t:bW}{r:List (Bool×WK)}{gs:Q1}(h:hasArgs ((false,[t])::r) gs):∃g c,gs=g::c/\t.has g/\hasArgs r c:=by simp only[hasArgs]at h;obtain⟨g,c,rfl,d,i,j⟩:=h;refine⟨_,_,rfl,?_,j⟩;obtain⟨g0,r0,e,m,n⟩:=Ad d;cases g<;>simp[GV.scalar]at i<;>simp only[GV.cells,zI]at e<;>rw[e.1]<;>exact m
def UC{g:GV}(h:(bW.int .u64).has g):∃n,g=.i .u64 n/\0<=n/\n<18446744073709551616:=by simp only[bW.has]at h;obtain⟨n,rfl,c,d⟩:=h;exact⟨n,rfl,by simpa[IntKind.min,IntKind.signed]using c,by simp[IntKind.max,IntKind.signed,IntKind.bits]at d;omega⟩
def ar7{b:Bool}{e:WK}{g:GV}(h:(bW.list b e).has g):∃xs,g=.l xs/\xs.length<=reachBytes/\∀x∈xs,bW.jq e x.cells/\x.scalar = !b:=by simpa only[bW.has]using h
def ahc{α:Type}{f:α->GV}{p:α->Prop}:∀{xs:Q1},(∀x∈xs,∃r,p r/\x=f r)->∃rs:List α,(∀r∈rs,p r)/\xs=rs.map f
 |[],_=>⟨[],aA,rfl⟩
 |x::xs,h=>by
  obtain⟨r,h1,d⟩:=h x aA;obtain⟨rs,e,g⟩:=ahc (xs:=xs) λy i=>h y (by simp[i]);refine⟨r::rs,λq c=>?_,by rw[d,g];rfl⟩;rcases bJ.1 c with rfl|c
  ·exact h1
  ·exact e q c
def wrap64{n:Int}(h0: -9223372036854775808<=n)(h1:n<=9223372036854775807):IntKind.i64.wrap n=n:=by
 have:IntKind.i64.wrap n=if n%18446744073709551616>=9223372036854775808 then n%18446744073709551616-18446744073709551616 else n%18446744073709551616:=by simp[IntKind.wrap,IntKind.signed,IntKind.bits]
 rw[this];split<;>omega
def G7{n:Int}(h0:0<=n)(h1:n<18446744073709551616):IntKind.u64.wrap n=n:=by
 have:IntKind.u64.wrap n=n%18446744073709551616:=by simp[IntKind.wrap,IntKind.signed,IntKind.bits]
 rw[this];omega
def bD(n:Int)(h0: -9223372036854775808<=n:=by omega)(c:n<=9223372036854775807:=by omega):IntKind.i64.wrap n=n:=wrap64 h0 c
def jD(n:Int)(h0:0<=n:=by omega)(c:n<18446744073709551616:=by omega):IntKind.u64.wrap n=n:=G7 h0 c
def goC(I:iJ)(f:Nat)(l:Q2)(r:Wo):Tree->Nat->(W8)->Option Q1
 |.step nd t,k,val=>match nd with
  |.call c d j=>if c=f/\d=l then(match r.bind λr=>r[j]? with
    |some g=>goC I f l r t (k+1) (upd val k g)
    |none=>none)else(Tree.step (.call c d j) t).go I k val
  |nd=>(Tree.step nd t).go I k val
 |t,k,val=>t.go I k val
def akt{val:W8}{k:Nat}{g:GV}:∀{l:Q2},(l.all λi=>Nat.blt i k)=true->valsOf (upd val k g) l=valsOf val l
 |[],_=>rfl
 |n::l,h=>by simp only[qJ,aO,jv]at h;rw[aks,aks,akt h.2,upd_ne ah]
def agc{I:iJ}{f:Nat}{l:Q2}{r:Wo}:∀(t:Tree)(k:Nat)(val:W8),(l.all λi=>Nat.blt i k)=true->(valsOf val l).bind (I f)=r->t.go I k val=goC I f l r t k val
 |.step nd t,k,val,d,m=>by
  cases nd with
  |call o c j=>
   simp only[goC];split
   ·next h=>
    obtain⟨rfl,rfl⟩:=h;rw[aBh,au7];have e:((valsOf val c).bind λp=>(I o p).bind λr=>r[j]?)=r.bind λr=>r[j]?:=by rw[<-m];cases valsOf val c<;>rfl
    rw[e];cases r.bind λr=>r[j]? with
    |none=>rfl
    |some g=>
     simp only[alC];refine agc t (k+1) (upd val k g) ?_ ?_
     ·rw[List.all_eq_true]at d⊢;intro i hi;have:=d i hi;rw[jv]at this⊢;omega
     ·rw[akt d];exact m
   ·rfl
  |_=>rfl
 |.ite n t e,k,val,_,_=>rfl
 |.ret c,k,val,_,_=>rfl
 |.tail o c,k,val,_,_=>rfl
 |.dead,k,val,_,_=>rfl
def ad3(o:W3)(I:iJ)(f:Nat)(l:Q2)(r:Wo)(t:Tree)(k:Nat)(val:W8):Wo:=match o with
 |some g=>goC I f l r t (k+1) (upd val k g)
 |none=>none
section
variable{I:iJ}{f:Nat}{l:Q2}{r:Wo}{k:Nat}{val:W8}{t:Tree}
def Pj{j:Nat}(h:(l.all λi=>decide (i<k))=true):(Tree.step (.call f l j) t).go I k val=goC I f l ((valsOf val l).bind (I f)) (.step (.call f l j) t) k val:=agc _ _ _ (by rw[List.all_eq_true]at h⊢;intro i hi;have:=h i hi;rw[decide_eq_true_iff]at this;rw[jv];exact this) rfl
@[simp high] theorem aDq{r:Q1}{j:Nat}:goC I f l (some r) (.step (.call f l j) t) k val=ad3 (r[j]?) I f l (some r) t k val:=by simp only[goC,and_self,if_true,zN];cases r[j]?<;>rfl
@[simp] theorem aC0{g:GV}:ad3 (some g) I f l r t k val=goC I f l r t (k+1) (upd val k g):=rfl
@[simp] theorem aDI{c j:Nat}{d:Q2}(h:¬(c=f/\d=l)):goC I f l r (.step (.call c d j) t) k val=(Tree.step (.call c d j) t).go I k val:=by simp only[goC,aj h]
@[simp] theorem aDz{n:Nat}{e:Tree}:goC I f l r (.ite n t e) k val=(Tree.ite n t e).go I k val:=rfl
@[simp] theorem aDK{c:Q2}:goC I f l r (.ret c) k val=(Tree.ret c).go I k val:=rfl
@[simp] theorem aDR{c:Nat}{d:Q2}:goC I f l r (.tail c d) k val=(Tree.tail c d).go I k val:=rfl
@[simp] theorem aDw:goC I f l r .dead k val=Tree.dead.go I k val:=rfl
@[simp] theorem aDt{y0 y1}:goC I f l r (.step (.ci y0 y1) t) k val=(Tree.step (.ci y0 y1) t).go I k val:=rfl
@[simp] theorem aDr{y0}:goC I f l r (.step (.cb y0) t) k val=(Tree.step (.cb y0) t).go I k val:=rfl
@[simp] theorem aDv{y0}:goC I f l r (.step (.cs y0) t) k val=(Tree.step (.cs y0) t).go I k val:=rfl
@[simp] theorem aDm{y0 y1 y2}:goC I f l r (.step (.bin y0 y1 y2) t) k val=(Tree.step (.bin y0 y1 y2) t).go I k val:=rfl
@[simp] theorem aDn{y0 y1 y2}:goC I f l r (.step (.Fq y0 y1 y2) t) k val=(Tree.step (.Fq y0 y1 y2) t).go I k val:=rfl
@[simp] theorem aDo{y0 y1 y2 y3}:goC I f l r (.step (.Fv y0 y1 y2 y3) t) k val=(Tree.step (.Fv y0 y1 y2 y3) t).go I k val:=rfl
@[simp] theorem aDS{y0 y1}:goC I f l r (.step (.un y0 y1) t) k val=(Tree.step (.un y0 y1) t).go I k val:=rfl
@[simp] theorem aDG{y0 y1 y2}:goC I f l r (.step (.mm y0 y1 y2) t) k val=(Tree.step (.mm y0 y1 y2) t).go I k val:=rfl
@[simp] theorem aDu{y0 y1}:goC I f l r (.step (.conv y0 y1) t) k val=(Tree.step (.conv y0 y1) t).go I k val:=rfl
@[simp] theorem aDA{y0}:goC I f l r (.step (.len y0) t) k val=(Tree.step (.len y0) t).go I k val:=rfl
@[simp] theorem aDO{y0}:goC I f l r (.step (.slen y0) t) k val=(Tree.step (.slen y0) t).go I k val:=rfl
@[simp] theorem aDy{y0 y1}:goC I f l r (.step (.Ah y0 y1) t) k val=(Tree.step (.Ah y0 y1) t).go I k val:=rfl
@[simp] theorem aDN{y0 y1}:goC I f l r (.step (.GN y0 y1) t) k val=(Tree.step (.GN y0 y1) t).go I k val:=rfl
@[simp] theorem aDP{y0 y1 y2}:goC I f l r (.step (.GU y0 y1 y2) t) k val=(Tree.step (.GU y0 y1 y2) t).go I k val:=rfl
@[simp] theorem aDB{y0 y1 y2 y3}:goC I f l r (.step (.Ef y0 y1 y2 y3) t) k val=(Tree.step (.Ef y0 y1 y2 y3) t).go I k val:=rfl
@[simp] theorem aDx{y0 y1}:goC I f l r (.step (.idx y0 y1) t) k val=(Tree.step (.idx y0 y1) t).go I k val:=rfl
@[simp] theorem aDl{y0 y1 y2}:goC I f l r (.step (.at y0 y1 y2) t) k val=(Tree.step (.at y0 y1 y2) t).go I k val:=rfl
@[simp] theorem aDs{y0 y1}:goC I f l r (.step (.cell y0 y1) t) k val=(Tree.step (.cell y0 y1) t).go I k val:=rfl
@[simp] theorem aDE{y0}:goC I f l r (.step (.mk y0) t) k val=(Tree.step (.mk y0) t).go I k val:=rfl
@[simp] theorem aDF{y0}:goC I f l r (.step (.ml y0) t) k val=(Tree.step (.ml y0) t).go I k val:=rfl
@[simp] theorem aDk{y0 y1 y2 y3}:goC I f l r (.step (.app y0 y1 y2 y3) t) k val=(Tree.step (.app y0 y1 y2 y3) t).go I k val:=rfl
@[simp] theorem aDT{y0 y1 y2 y3 y4}:goC I f l r (.step (.upd y0 y1 y2 y3 y4) t) k val=(Tree.step (.upd y0 y1 y2 y3 y4) t).go I k val:=rfl
@[simp] theorem aDJ{y0 y1 y2 y3 y4}:goC I f l r (.step (.rep y0 y1 y2 y3 y4) t) k val=(Tree.step (.rep y0 y1 y2 y3 y4) t).go I k val:=rfl
@[simp] theorem aDp{y0}:goC I f l r (.step (.bytes y0) t) k val=(Tree.step (.bytes y0) t).go I k val:=rfl
@[simp] theorem aDQ{y0}:goC I f l r (.step (.str y0) t) k val=(Tree.step (.str y0) t).go I k val:=rfl
@[simp] theorem aDL{y0 y1}:goC I f l r (.step (.same y0 y1) t) k val=(Tree.step (.same y0 y1) t).go I k val:=rfl
@[simp] theorem aDM{y0}:goC I f l r (.step (.GL y0) t) k val=(Tree.step (.GL y0) t).go I k val:=rfl
@[simp] theorem aDC{y0 y1 y2}:goC I f l r (.step (.Gm y0 y1 y2) t) k val=(Tree.step (.Gm y0 y1 y2) t).go I k val:=rfl
@[simp] theorem aDD{y0 y1}:goC I f l r (.step (.Gn y0 y1) t) k val=(Tree.step (.Gn y0 y1) t).go I k val:=rfl
@[simp] theorem aDH{y0 y1 y2}:goC I f l r (.step (.Cb y0 y1 y2) t) k val=(Tree.step (.Cb y0 y1 y2) t).go I k val:=rfl
