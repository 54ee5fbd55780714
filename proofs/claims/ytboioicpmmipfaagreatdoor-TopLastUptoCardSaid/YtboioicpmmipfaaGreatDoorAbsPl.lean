/- Plain laws over trees: values of one's own as ground values; how a tree is gone through. -/
import Derived.Test.YtboioicpmmipfaaGreatDoorAbsJ
set_option linter.all false
namespace Go.aP
def KA{Ds:Wb}{k:Nat}{d:aH}{gs c:Q1}(e:Ds[k]? =some d)(h:d.den (wG Ds).lim gs=some c):(wG Ds).lim k gs=some c:=jo.axS e h
def upd(val:Wc)(k:Nat)(g:GV):Nat->Option GV:=λn=>if n=k then some g else val n
def Qi(gs:Q1):Nat->Option GV:=λn=>gs[n]?
@[simp] theorem aHf{gs:Q1}{n:Nat}:Qi gs n=gs[n]?:=rfl
@[simp] theorem upd_same{val:Wc}{k:Nat}{g:GV}:upd val k g k=some g:=au rfl
@[simp] theorem upd_ne{val:Wc}{k n:Nat}{g:GV}(h:n≠k):upd val k g n=val n:=aj h
def Tree.go(I:jl):Tree->Nat->(Wc)->Option Q1
 |.step nd t,k,val=>match nd.den I val with
  |some g=>t.go I (k+1) (upd val k g)
  |none=>none
 |.ite n t e,k,val=>match val n with
  |some (.b true)=>t.go I k val
  |some (.b false)=>e.go I k val
  |_=>none
 |.ret l,_,val=>valsOf val l
 |.tail f l,_,val=>match valsOf val l with
  |some gs=>I f gs
  |none=>none
 |.dead,_,_=>none
def Tree.QZ{I:jl}:∀(t:Tree)(c:Q1),t.go I c.length (λn=>c[n]?)=t.den I c
 |.step nd t,c=>by
  simp only[Tree.go,Tree.den];cases nd.den I λn=>c[n]? with
  |none=>rfl
  |some g=>
   simp only;rw[<-Tree.QZ t (c++[g])];congr 1
   ·simp
   ·funext n;unfold upd;split
    ·next h=>subst h;simp
    ·next h=>
     show c[n]? =(c++[g])[n]?
     rcases zJ n c.length with d|d
     ·rw[pF d]
     ·rw[yD d,xB (l:=c) d,xB];simp;omega
 |.ite n t e,c=>by simp only[Tree.go,Tree.den,Tree.QZ t c,Tree.QZ e c];rfl
 |.ret l,c=>rfl
 |.tail f l,c=>rfl
 |.dead,c=>rfl
def afT(o:W4)(I:jl)(t:Tree)(k:Nat)(val:Wc):Wr:=match o with
 |some g=>t.go I (k+1) (upd val k g)
 |none=>none
def agM(o:W4)(I:jl)(t e:Tree)(k:Nat)(val:Wc):Wr:=match o with
 |some (.b true)=>t.go I k val
 |some (.b false)=>e.go I k val
 |_=>none
section
variable{I:jl}{k:Nat}{val:Wc}
@[simp] theorem aoE{g:GV}{t:Tree}:afT (some g) I t k val=t.go I (k+1) (upd val k g):=rfl
@[simp] theorem aHR{c:Bool}{t e:Tree}:agM (some (.b c)) I t e k val=if c=true then t.go I k val else e.go I k val:=by cases c<;>rfl
@[simp] theorem aFS{nd:Nd}{t:Tree}:(Tree.step nd t).go I k val=afT (nd.den I val) I t k val:=rfl
@[simp] theorem aJB{n:Nat}{t e:Tree}:(Tree.ite n t e).go I k val=agM (val n) I t e k val:=rfl
@[simp] theorem aJC{l:Q2}:(Tree.ret l).go I k val=valsOf val l:=rfl
@[simp] theorem aJA:Tree.dead.go I k val=none:=rfl
@[simp] theorem aJD{f:Nat}{l:Q2}:(Tree.tail f l).go I k val=(valsOf val l).bind (I f):=by simp only[Tree.go];cases valsOf val l<;>rfl
end
@[simp] theorem ay7{I:jl}{f j:Nat}{l:Q2}{val:Wc}:(Nd.call f l j).den I val=(valsOf val l).bind λgs=>(I f gs).bind λr=>r[j]?:=by
 simp only[Nd.den];cases valsOf val l with
 |none=>rfl
 |some gs=>simp only[BA];cases I f gs<;>rfl
@[simp] theorem aJG{val:Wc}:valsOf val []=some []:=rfl
@[simp] theorem anj{val:Wc}{n:Nat}{l:Q2}:valsOf val (n::l)=(val n).bind λg=>(valsOf val l).bind λr=>some (g::r):=by simp only[valsOf];cases val n<;>cases valsOf val l<;>rfl
def jq(c:BinOp)(x y:W4):W4:=match x,y with
 |some a,some b=>jg c a b
 |_,_=>none
def ZO(c:BinOp)(x y:W4):W4:=match x,y with
 |some a,some b=>U8 c a b
 |_,_=>none
def Qn(c:BinOp)(d:Q2)(x y:W4):W4:=match x,y with
 |some a,some b=>Nu c d a b
 |_,_=>none
def YP(c:UnOp)(x:W4):W4:=match x with
 |some a=>YQ c a
 |none=>none
section
variable{I:jl}{val:Wc}
@[simp] theorem aIT{k:IntKind}{n:Int}:(Nd.ci k n).den I val=some (.i k n):=rfl
@[simp] theorem aIR{x:Bool}:(Nd.cb x).den I val=some (.b x):=rfl
@[simp] theorem aIV{x:Q0}:(Nd.cs x).den I val=some (.s x):=rfl
@[simp] theorem aIN{c:BinOp}{a b:Nat}:(Nd.bin c a b).den I val=jq c (val a) (val b):=rfl
@[simp] theorem aIO{c:BinOp}{a b:Nat}:(Nd.G6 c a b).den I val=ZO c (val a) (val b):=rfl
@[simp] theorem aIP{c:BinOp}{d:Q2}{a b:Nat}:(Nd.G7 c d a b).den I val=Qn c d (val a) (val b):=rfl
@[simp] theorem aJd{c:UnOp}{a:Nat}:(Nd.un c a).den I val=YP c (val a):=rfl
def RX(c:Bool)(x y:W4):W4:=match x,y with
 |some (.i k x),some (.i d y)=>if k=d then some (.i k (if c then(if x<y then y else x)else(if y<x then y else x)))else none
 |_,_=>none
@[simp] theorem aI4{g:Bool}{a b:Nat}:(Nd.mm g a b).den I val=RX g (val a) (val b):=rfl
@[simp] theorem aIJ{k:IntKind}{x y:Int}:RX true (some (.i k x)) (some (.i k y))=some (.i k (if x<y then y else x)):=by simp[RX]
@[simp] theorem aII{k:IntKind}{x y:Int}:RX false (some (.i k x)) (some (.i k y))=some (.i k (if y<x then y else x)):=by simp[RX]
def agO(k:IntKind)(x:W4):W4:=match x with
 |some (.i _ n)=>some (.i k (k.wrap n))
 |_=>none
@[simp] theorem aIU{k:IntKind}{a:Nat}:(Nd.conv k a).den I val=agO k (val a):=rfl
@[simp] theorem aHS{k c:IntKind}{n:Int}:agO k (some (.i c n))=some (.i k (k.wrap n)):=rfl
def len1(x:W4):W4:=match x with
 |some (.l c)=>some (.i .i64 c.length)
 |_=>none
@[simp] theorem aIY{a:Nat}:(Nd.len a).den I val=len1 (val a):=rfl
@[simp] theorem aIF{xs:Q1}:len1 (some (.l xs))=some (.i .i64 xs.length):=rfl
def amn(x:W4):W4:=match x with
 |some (.s x)=>some (.i .i64 x.length)
 |_=>none
@[simp] theorem aJa{a:Nat}:(Nd.slen a).den I val=amn (val a):=rfl
@[simp] theorem aJu{x:Q0}:amn (some (.s x))=some (.i .i64 x.length):=rfl
def adP(x i:W4):W4:=match x,i with
 |some (.s x),some (.i _ k)=>if 0<=k then match x[k.toNat]? with
  |some c=>some (.i .u8 c.toNat)
  |none=>none
  else none
 |_,_=>none
@[simp] theorem aI9{a i:Nat}:(Nd.IX a i).den I val=adP (val a) (val i):=rfl
@[simp] theorem aJt{x:Q0}{d:IntKind}{k:Int}:adP (some (.s x)) (some (.i d k))=if 0<=k then(x[k.toNat]?).bind λc=>some (.i .u8 c.toNat)else none:=by
 simp only[adP];split
 ·cases x[k.toNat]?<;>rfl
 ·rfl
def amA(x lo hi:W4):W4:=match x,lo,hi with
 |some (.s x),some (.i _ l),some (.i _ h)=>if 0<=l/\l<=h/\h<=x.length then some (.s ((x.take h.toNat).drop l.toNat))else none
 |_,_,_=>none
@[simp] theorem aJb{a l h:Nat}:(Nd.IY a l h).den I val=amA (val a) (val l) (val h):=rfl
def aj6(z m k:W4):W4:=match z,m,k with
 |some d,some (.l c),some g=>some ((iC g c).getD d)
 |_,_,_=>none
def aj7(m k:W4):W4:=match m,k with
 |some (.l c),some g=>some (.b (iC g c).isSome)
 |_,_=>none
def akc(m k v:W4):W4:=match m,k,v with
 |some (.l c),some g,some u=>some (.l (kV g u c))
 |_,_,_=>none
@[simp] theorem aI0{z m k:Nat}:(Nd.Iu z m k).den I val=aj6 (val z) (val m) (val k):=rfl
@[simp] theorem aI1{m k:Nat}:(Nd.Iw m k).den I val=aj7 (val m) (val k):=rfl
@[simp] theorem aI5{m k v:Nat}:(Nd.DT m k v).den I val=akc (val m) (val k) (val v):=rfl
@[simp] theorem aIG{d g:GV}{xs:Q1}:aj6 (some d) (some (.l xs)) (some g)=some ((iC g xs).getD d):=rfl
@[simp] theorem aIH{g:GV}{xs:Q1}:aj7 (some (.l xs)) (some g)=some (.b (iC g xs).isSome):=rfl
@[simp] theorem aIK{g u:GV}{xs:Q1}:akc (some (.l xs)) (some g) (some u)=some (.l (kV g u xs)):=rfl
@[simp] theorem aJz{x:Q0}{k c:IntKind}{l h:Int}:amA (some (.s x)) (some (.i k l)) (some (.i c h))=if 0<=l/\l<=h/\h<=x.length then some (.s ((x.take h.toNat).drop l.toNat))else none:=rfl
def Ou(size:Nat)(x lo hi:W4):W4:=match x,lo,hi with
 |some (.l c),some (.i _ l),some (.i _ h)=>if 0<=l/\l<=h/\h<=c.length/\(c.all λx=>Nat.beq x.cells.length size)=true then some (.l ((c.take h.toNat).drop l.toNat))else none
 |_,_,_=>none
@[simp] theorem aIZ{s a l h:Nat}:(Nd.FB s a l h).den I val=Ou s (val a) (val l) (val h):=rfl
@[simp] theorem nT{s:Nat}{xs:Q1}{k c:IntKind}{l h:Int}:Ou s (some (.l xs)) (some (.i k l)) (some (.i c h))=if 0<=l/\l<=h/\h<=xs.length/\(xs.all λx=>Nat.beq x.cells.length s)=true then some (.l ((xs.take h.toNat).drop l.toNat))else none:=rfl
def Fe(x i:W4):W4:=match x,i with
 |some (.l c),some (.i _ k)=>if 0<=k/\k<c.length then some (.i .i64 k)else none
 |_,_=>none
@[simp] theorem aIW{a i:Nat}:(Nd.idx a i).den I val=Fe (val a) (val i):=rfl
@[simp] theorem ku{xs:Q1}{c:IntKind}{k:Int}:Fe (some (.l xs)) (some (.i c k))=if 0<=k/\k<xs.length then some (.i .i64 k)else none:=rfl
def at2(size:Nat)(x i:W4):W4:=match x,i with
 |some (.l c),some (.i _ k)=>if 0<=k then match c[k.toNat]? with
  |some x=>if x.cells.length=size then some x else none
  |none=>none
  else none
 |_,_=>none
@[simp] theorem aIM{s a i:Nat}:(Nd.at s a i).den I val=at2 s (val a) (val i):=rfl
@[simp] theorem fO{s:Nat}{xs:Q1}{c:IntKind}{k:Int}:at2 s (some (.l xs)) (some (.i c k))=if 0<=k then(xs[k.toNat]?).bind λx=>if x.cells.length=s then some x else none else none:=by
 simp only[at2];split
 ·cases xs[k.toNat]?<;>rfl
 ·rfl
def cell1(off:Nat)(x:W4):W4:=match x with
 |some g=>match g.cells[off]? with
  |some c=>if c.scalar then some c else none
  |none=>none
 |none=>none
@[simp] theorem aIS{o a:Nat}:(Nd.cell o a).den I val=cell1 o (val a):=rfl
@[simp] theorem aHM{o:Nat}{g:GV}:cell1 o (some g)=(g.cells[o]?).bind λc=>if c.scalar=true then some c else none:=by simp only[cell1];cases g.cells[o]?<;>rfl
@[simp] theorem aI2{l:Q2}:(Nd.mk l).den I val=(valsOf val l).bind λgs=>if gs.all GV.scalar=true then some (.g gs)else none:=by simp only[Nd.den];cases valsOf val l<;>rfl
@[simp] theorem aI3{l:Q2}:(Nd.ml l).den I val=(valsOf val l).bind λgs=>some (.l gs):=by simp only[Nd.den];cases valsOf val l<;>rfl
def Jy(size e:Nat)(x y:W4):W4:=match x,y with
 |some (.l d),some (.l c)=>if c.all (GV.gV size)=true/\2*(d.length+c.length)*e<=2^48/\d.length+c.length<=2^48 then some (.l (d++c))else none
 |_,_=>none
@[simp] theorem aIL{z s a b:Nat}:(Nd.app z s a b).den I val=Jy z s (val a) (val b):=rfl
@[simp] theorem GY{z s:Nat}{xs c:Q1}:Jy z s (some (.l xs)) (some (.l c))=if c.all (GV.gV z)=true/\2*(xs.length+c.length)*s<=2^48/\xs.length+c.length<=2^48 then some (.l (xs++c))else none:=rfl
def Gq(size off:Nat)(x i:W4)(vs:Wr):W4:=match x,i,vs with
 |some (.l c),some (.i _ k),some d=>if 0<=k/\d.all GV.scalar=true then match c[k.toNat]? with
  |some x=>if x.cells.length=size then(x.put off d).map λy=>.l (c.set k.toNat y)else none
  |none=>none
  else none
 |_,_,_=>none
@[simp] theorem aJe{s o a i:Nat}{vs:Q2}:(Nd.upd s o a i vs).den I val=Gq s o (val a) (val i) (valsOf val vs):=rfl
@[simp] theorem vX{s o:Nat}{xs:Q1}{c:IntKind}{k:Int}{gs:Q1}:Gq s o (some (.l xs)) (some (.i c k)) (some gs)=if 0<=k/\gs.all GV.scalar=true then(xs[k.toNat]?).bind λx=>if x.cells.length=s then(x.put o gs).map λy=>.l (xs.set k.toNat y)else none else none:=by
 simp only[Gq];split
 ·cases xs[k.toNat]?<;>rfl
 ·rfl
@[simp] theorem aJk{k:IntKind}{n:Int}{v:GV}:(GV.i k n).put 0 [v]=some v:=rfl
def alF(size d:Nat)(z l c:W4):W4:=match z,l,c with
 |some x,some (.i _ n),some (.i _ m)=>if 0<=n/\n<=m/\d*m<=2^48/\m<=2^60/\x.gV size=true then some (.l (List.replicate n.toNat x))else none
 |_,_,_=>none
@[simp] theorem aI6{s b z l c:Nat}:(Nd.rep s b z l c).den I val=alF s b (val z) (val l) (val c):=rfl
@[simp] theorem aJl{s b:Nat}{x:GV}{k c:IntKind}{n m:Int}:alF s b (some x) (some (.i k n)) (some (.i c m))=if 0<=n/\n<=m/\b*m<=2^48/\m<=2^60/\x.gV s=true then some (.l (List.replicate n.toNat x))else none:=by cases x<;>rfl
@[simp] theorem aIQ{a:Nat}:(Nd.bytes a).den I val=(val a).bind λg=>match g with|.s x=>some (.l (dJ x))|_=>none:=by
 simp only[Nd.den];cases val a with
 |none=>rfl
 |some g=>cases g<;>rfl
@[simp] theorem aJc{a:Nat}:(Nd.str a).den I val=(val a).bind λg=>match g with|.l xs=>if xs.length<=2^48 then(pO xs).map .s else none|_=>none:=by
 simp only[Nd.den];cases val a with
 |none=>rfl
 |some g=>cases g<;>rfl
@[simp] theorem aI7{a b:Nat}:(Nd.same a b).den I val=(val a).bind λg=>(val b).bind λh=>match g,h with|.l xs,.l c=>if c.length=xs.length then some (.l c)else none|_,_=>none:=by
 simp only[Nd.den];cases val a with
 |none=>rfl
 |some g=>cases val b with
  |none=>cases g<;>rfl
  |some h=>cases g<;>cases h<;>rfl
@[simp] theorem aIX{a j:Nat}:(Nd.Cb a j).den I val=(val a).bind λg=>match g with|.i _ m=>some (.b (decide (m=(j:Int))))|_=>none:=by
 simp only[Nd.den];cases val a with
 |none=>rfl
 |some g=>cases g<;>rfl
@[simp] theorem aI8{a:Nat}:(Nd.IW a).den I val=(val a).bind λg=>match g with|.s x=>some (.s x)|_=>none:=by
 simp only[Nd.den];cases val a with
 |none=>rfl
 |some g=>cases g<;>rfl
end
section
variable{k:IntKind}{a b:Int}
@[simp] theorem aHg:jq .add (some (.i k a)) (some (.i k b))=some (.i k (k.wrap (a+b))):=by simp[jq,jg,dA]
@[simp] theorem aHB:jq .sub (some (.i k a)) (some (.i k b))=some (.i k (k.wrap (a-b))):=by simp[jq,jg,dA]
@[simp] theorem aHn:jq .mul (some (.i k a)) (some (.i k b))=some (.i k (k.wrap (a*b))):=by simp[jq,jg,dA]
@[simp] theorem aHq:jq .quo (some (.i k a)) (some (.i k b))=if b=0 then none else some (.i k (k.wrap (a.tdiv b))):=by simp[jq,jg,dA]
@[simp] theorem aHr:jq .rem (some (.i k a)) (some (.i k b))=if b=0 then none else some (.i k (a.tmod b)):=by simp[jq,jg,dA]
@[simp] theorem aHi:jq .eql (some (.i k a)) (some (.i k b))=some (.b (decide (a=b))):=by simp only[jq,jg,dA,if_true];rw[show(a==b)=decide (a=b)from rfl]
@[simp] theorem aHo:jq .neq (some (.i k a)) (some (.i k b))=some (.b (decide (a≠b))):=by simp only[jq,jg,dA,if_true,bne];rw[show(a==b)=decide (a=b)from rfl,<-decide_not]
@[simp] theorem aHm:jq .lss (some (.i k a)) (some (.i k b))=some (.b (decide (a<b))):=by simp[jq,jg,dA]
@[simp] theorem aHl:jq .leq (some (.i k a)) (some (.i k b))=some (.b (decide (a<=b))):=by simp[jq,jg,dA]
@[simp] theorem aHk:jq .gtr (some (.i k a)) (some (.i k b))=some (.b (decide (b<a))):=by simp[jq,jg,dA]
@[simp] theorem aHj:jq .geq (some (.i k a)) (some (.i k b))=some (.b (decide (b<=a))):=by simp[jq,jg,dA]
@[simp] theorem aHh:jq .and (some (.i k a)) (some (.i k b))=dA .and k a b:=by simp[jq,jg]
@[simp] theorem aHp:jq .or (some (.i k a)) (some (.i k b))=dA .or k a b:=by simp[jq,jg]
@[simp] theorem aHC:jq .xor (some (.i k a)) (some (.i k b))=dA .xor k a b:=by simp[jq,jg]
@[simp] theorem aHw{c:IntKind}:jq .shl (some (.i k a)) (some (.i c b))=kX .shl k a b:=rfl
@[simp] theorem aHx{c:IntKind}:jq .shr (some (.i k a)) (some (.i c b))=kX .shr k a b:=rfl
end
section
variable{a b:Q0}
@[simp] theorem aHs:jq .add (some (.s a)) (some (.s b))=if((a.length+b.length:Nat):Int)<=9223372036854775807 then some (.s (a++b))else none:=by simp only[jq,jg,zo];rfl
@[simp] theorem aHt:jq .eql (some (.s a)) (some (.s b))=some (.b (decide (a=b))):=by simp only[jq,jg,zo];congr 2;rw[zA];simp
@[simp] theorem aHA:jq .neq (some (.s a)) (some (.s b))=some (.b (decide (a≠b))):=by simp only[jq,jg,zo];congr 2;rw[zA];simp
@[simp] theorem aHz:jq .lss (some (.s a)) (some (.s b))=some (.b (Op.bytesLess a b)):=rfl
@[simp] theorem aHu:jq .geq (some (.s a)) (some (.s b))=some (.b (!(Op.bytesLess a b))):=rfl
@[simp] theorem aHy:jq .leq (some (.s a)) (some (.s b))=some (.b (Op.bytesLess a b ||a==b)):=rfl
@[simp] theorem aHv:jq .gtr (some (.s a)) (some (.s b))=some (.b (!(Op.bytesLess a b ||a==b))):=rfl
end
@[simp] theorem aHD{a b:Bool}:ZO .eql (some (.b a)) (some (.b b))=some (.b (a==b)):=rfl
@[simp] theorem aHE{a b:Bool}:ZO .neq (some (.b a)) (some (.b b))=some (.b (!(a==b))):=rfl
@[simp] theorem aHF{c:Q2}{a b:Q1}:Qn .eql c (some (.g a)) (some (.g b))=(pU c a b).bind λr=>some (.b r):=by simp only[Qn,Nu];cases pU c a b<;>rfl
@[simp] theorem aHG{c:Q2}{a b:Q1}:Qn .neq c (some (.g a)) (some (.g b))=(pU c a b).bind λr=>some (.b (!r)):=by simp only[Qn,Nu];cases pU c a b<;>rfl
@[simp] theorem aJF{a:Bool}:YP .not (some (.b a))=some (.b (!a)):=rfl
@[simp] theorem aJE{k:IntKind}{a:Int}:YP .neg (some (.i k a))=some (.i k (k.wrap (0-a))):=rfl
@[simp] theorem apc{cs:Q1}:(GV.g cs).cells=cs:=rfl
@[simp] theorem aHO{k:IntKind}{n:Int}:(GV.i k n).cells=[.i k n]:=rfl
@[simp] theorem aHN{x:Bool}:(GV.b x).cells=[.b x]:=rfl
@[simp] theorem aHQ{x:Q0}:(GV.s x).cells=[.s x]:=rfl
@[simp] theorem aHP{x:Q1}:(GV.l x).cells=[.l x]:=rfl
@[simp] theorem aJp{cs:Q1}:(GV.g cs).scalar=false:=rfl
@[simp] theorem aJq{k:IntKind}{n:Int}:(GV.i k n).scalar=true:=rfl
@[simp] theorem aJo{x:Bool}:(GV.b x).scalar=true:=rfl
@[simp] theorem aJs{x:Q0}:(GV.s x).scalar=true:=rfl
@[simp] theorem aJr{x:Q1}:(GV.l x).scalar=true:=rfl
def Wi{Ds:Wb}{k:Nat}{d e:WN}{t:Tree}{gs c:Q1}(g:Ds[k]? =some (.fn d e t))(hi:qE d gs=true)(h:t.go (wG Ds).lim gs.length (Qi gs)=some c)(i:qE e c=true):(wG Ds).lim k gs=some c:=by have h:t.den (wG Ds).lim gs=some c:=(Tree.QZ t gs).symm.trans h;exact KA g (by simp only[aH.den,au hi,h,au i])
def jI{Ds:Wb}{k n:Nat}{t:Tree}{gs c:Q1}(d:Ds[k]? =some (.tree n t))(e:gs.length=n)(h:t.go (wG Ds).lim gs.length (Qi gs)=some c):(wG Ds).lim k gs=some c:=by have h:t.den (wG Ds).lim gs=some c:=(Tree.QZ t gs).symm.trans h;exact KA d (by simp only[aH.den,au e,h])
def aW{Ds:Wb}{k:Nat}{d e:WN}{t:Tree}{gs c:Q1}(h:t.go (wG Ds).lim gs.length (Qi gs)=some c)(g:Ds[k]? =some (.fn d e t):=by exact rfl)(hi:qE d gs=true:=by exact rfl)(i:qE e c=true:=by exact rfl):(wG Ds).lim k gs=some c:=Wi g hi h i
def aB{Ds:Wb}{k n:Nat}{t:Tree}{gs c:Q1}(h:t.go (wG Ds).lim gs.length (Qi gs)=some c)(d:Ds[k]? =some (.tree n t):=by exact rfl)(e:gs.length=n:=by exact rfl):(wG Ds).lim k gs=some c:=jI d e h
def iP{α:Type}{l:List α}{i:Nat}(h:l.length<=i:=by omega):l.drop i=[]:=Jg h
abbrev GV.zu(n:Int):GV:=.i .u64 n
abbrev GV.zq(n:Int):GV:=.i .i64 n
def bW{α:Sort _}{c:Prop}{_:Decidable c}{a b:α}(h:¬c:=by omega):ite c a b=b:=aj h
def lY{α:Sort _}{c:Prop}{_:Decidable c}{a b:α}(h:c:=by omega):ite c a b=a:=au h
def D5{Ds:Wb}{k:Nat}{f:Q1->Option Q1}{gs c:Q1}(d:Ds[k]? =some (.bU f))(h:f gs=some c):(wG Ds).lim k gs=some c:=
 KA d h
def awd{gs:Q1}(h:hasArgs [] gs):gs=[]:=by simpa only[hasArgs]using h
def aiA{l:WK}{r:List (Bool×WK)}{gs:Q1}(h:hasArgs ((true,l)::r) gs):∃cs c,gs=.g cs::c/\dh.jK l cs/\hasArgs r c:=by
 simp only[hasArgs]at h;obtain⟨g,c,rfl,d,e,i⟩:=h;cases g<;>simp[GV.scalar]at e
 exact⟨_,_,rfl,d,i⟩
def rE{t:dh}{l:WK}{gs:Q1}(h:dh.jK (t::l) gs):∃g r,gs=g::r/\t.has g/\dh.jK l r:=by simpa only[dh.jK]using h
def Og{gs:Q1}(h:dh.jK [] gs):gs=[]:=by simpa only[dh.jK]using h
def aa8{t:dh}{r:List (Bool×WK)}{gs:Q1}(h:hasArgs ((false,[t])::r) gs):∃g c,gs=g::c/\t.has g/\hasArgs r c:=by simp only[hasArgs]at h;obtain⟨g,c,rfl,d,i,j⟩:=h;refine⟨_,_,rfl,?_,j⟩;obtain⟨g0,r0,e,m,n⟩:=rE d;cases g<;>simp[GV.scalar]at i<;>simp only[GV.cells,yC]at e<;>rw[e.1]<;>exact m
def J8{g:GV}(h:(dh.int .u64).has g):∃n,g=.i .u64 n/\0<=n/\n<18446744073709551616:=by simp only[dh.has]at h;obtain⟨n,rfl,c,d⟩:=h;exact⟨n,rfl,by simpa[IntKind.min,IntKind.signed]using c,by simp[IntKind.max,IntKind.signed,IntKind.bits]at d;omega⟩
def aiC{g:GV}(h:dh.str.has g):∃s,g=.s s/\s.length<=reachBytes:=by simpa only[dh.has]using h
def WG{b:Bool}{e:WK}{g:GV}(h:(dh.list b e).has g):∃xs,g=.l xs/\xs.length<=reachBytes/\∀x∈xs,dh.jK e x.cells/\x.scalar = !b:=by simpa only[dh.has]using h
def RI{α:Type}{f:α->GV}{p:α->Prop}:∀{xs:Q1},(∀x∈xs,∃r,p r/\x=f r)->∃rs:List α,(∀r∈rs,p r)/\xs=rs.map f
 |[],_=>⟨[],aA,rfl⟩
 |x::xs,h=>by
  obtain⟨r,h1,d⟩:=h x aA;obtain⟨rs,e,g⟩:=RI (xs:=xs) λy i=>h y (by simp[i]);refine⟨r::rs,λq c=>?_,by rw[d,g];rfl⟩;rcases bH.1 c with rfl|c
  ·exact h1
  ·exact e q c
def wrap64{n:Int}(h0: -9223372036854775808<=n)(h1:n<=9223372036854775807):IntKind.i64.wrap n=n:=by
 have:IntKind.i64.wrap n=if n%18446744073709551616>=9223372036854775808 then n%18446744073709551616-18446744073709551616 else n%18446744073709551616:=by simp[IntKind.wrap,IntKind.signed,IntKind.bits]
 rw[this];split<;>omega
def Ja{n:Int}(h0:0<=n)(h1:n<18446744073709551616):IntKind.u64.wrap n=n:=by
 have:IntKind.u64.wrap n=n%18446744073709551616:=by simp[IntKind.wrap,IntKind.signed,IntKind.bits]
 rw[this];omega
def bK(n:Int)(h0: -9223372036854775808<=n:=by omega)(c:n<=9223372036854775807:=by omega):IntKind.i64.wrap n=n:=wrap64 h0 c
def jW(n:Int)(h0:0<=n:=by omega)(c:n<18446744073709551616:=by omega):IntKind.u64.wrap n=n:=Ja h0 c
def goC(I:jl)(f:Nat)(l:Q2)(r:Wr):Tree->Nat->(Wc)->Option Q1
 |.step nd t,k,val=>match nd with
  |.call c d j=>if c=f/\d=l then(match r.bind λr=>r[j]? with
    |some g=>goC I f l r t (k+1) (upd val k g)
    |none=>none)else(Tree.step (.call c d j) t).go I k val
  |nd=>(Tree.step nd t).go I k val
 |t,k,val=>t.go I k val
def ank{val:Wc}{k:Nat}{g:GV}:∀{l:Q2},(l.all λi=>Nat.blt i k)=true->valsOf (upd val k g) l=valsOf val l
 |[],_=>rfl
 |n::l,h=>by simp only[uH,aO,jY]at h;rw[anj,anj,ank h.2,upd_ne ah]
def aic{I:jl}{f:Nat}{l:Q2}{r:Wr}:∀(t:Tree)(k:Nat)(val:Wc),(l.all λi=>Nat.blt i k)=true->(valsOf val l).bind (I f)=r->t.go I k val=goC I f l r t k val
 |.step nd t,k,val,d,m=>by
  cases nd with
  |call o c j=>
   simp only[goC];split
   ·next h=>
    obtain⟨rfl,rfl⟩:=h;rw[aFS,ay7];have e:((valsOf val c).bind λp=>(I o p).bind λr=>r[j]?)=r.bind λr=>r[j]?:=by rw[<-m];cases valsOf val c<;>rfl
    rw[e];cases r.bind λr=>r[j]? with
    |none=>rfl
    |some g=>
     simp only[aoE];refine aic t (k+1) (upd val k g) ?_ ?_
     ·rw[List.all_eq_true]at d⊢;intro i hi;have:=d i hi;rw[jY]at this⊢;omega
     ·rw[ank d];exact m
   ·rfl
  |_=>rfl
 |.ite n t e,k,val,_,_=>rfl
 |.ret c,k,val,_,_=>rfl
 |.tail o c,k,val,_,_=>rfl
 |.dead,k,val,_,_=>rfl
def afS(o:W4)(I:jl)(f:Nat)(l:Q2)(r:Wr)(t:Tree)(k:Nat)(val:Wc):Wr:=match o with
 |some g=>goC I f l r t (k+1) (upd val k g)
 |none=>none
section
variable{I:jl}{f:Nat}{l:Q2}{r:Wr}{k:Nat}{val:Wc}{t:Tree}
def QY{j:Nat}(h:(l.all λi=>decide (i<k))=true):(Tree.step (.call f l j) t).go I k val=goC I f l ((valsOf val l).bind (I f)) (.step (.call f l j) t) k val:=aic _ _ _ (by rw[List.all_eq_true]at h⊢;intro i hi;have:=h i hi;rw[decide_eq_true_iff]at this;rw[jY];exact this) rfl
@[simp high] theorem aH6{r:Q1}{j:Nat}:goC I f l (some r) (.step (.call f l j) t) k val=afS (r[j]?) I f l (some r) t k val:=by simp only[goC,and_self,if_true,BA];cases r[j]?<;>rfl
@[simp] theorem aHH{g:GV}:afS (some g) I f l r t k val=goC I f l r t (k+1) (upd val k g):=rfl
@[simp] theorem aIo{c j:Nat}{d:Q2}(h:¬(c=f/\d=l)):goC I f l r (.step (.call c d j) t) k val=(Tree.step (.call c d j) t).go I k val:=by simp only[goC,aj h]
@[simp] theorem aIf{n:Nat}{e:Tree}:goC I f l r (.ite n t e) k val=(Tree.ite n t e).go I k val:=rfl
@[simp] theorem aIq{c:Q2}:goC I f l r (.ret c) k val=(Tree.ret c).go I k val:=rfl
@[simp] theorem aIx{c:Nat}{d:Q2}:goC I f l r (.tail c d) k val=(Tree.tail c d).go I k val:=rfl
@[simp] theorem aIc:goC I f l r .dead k val=Tree.dead.go I k val:=rfl
@[simp] theorem aH9{y0 y1}:goC I f l r (.step (.ci y0 y1) t) k val=(Tree.step (.ci y0 y1) t).go I k val:=rfl
@[simp] theorem aH7{y0}:goC I f l r (.step (.cb y0) t) k val=(Tree.step (.cb y0) t).go I k val:=rfl
@[simp] theorem aIb{y0}:goC I f l r (.step (.cs y0) t) k val=(Tree.step (.cs y0) t).go I k val:=rfl
@[simp] theorem aH2{y0 y1 y2}:goC I f l r (.step (.bin y0 y1 y2) t) k val=(Tree.step (.bin y0 y1 y2) t).go I k val:=rfl
@[simp] theorem aH3{y0 y1 y2}:goC I f l r (.step (.G6 y0 y1 y2) t) k val=(Tree.step (.G6 y0 y1 y2) t).go I k val:=rfl
@[simp] theorem aH4{y0 y1 y2 y3}:goC I f l r (.step (.G7 y0 y1 y2 y3) t) k val=(Tree.step (.G7 y0 y1 y2 y3) t).go I k val:=rfl
@[simp] theorem aIy{y0 y1}:goC I f l r (.step (.un y0 y1) t) k val=(Tree.step (.un y0 y1) t).go I k val:=rfl
@[simp] theorem aIm{y0 y1 y2}:goC I f l r (.step (.mm y0 y1 y2) t) k val=(Tree.step (.mm y0 y1 y2) t).go I k val:=rfl
@[simp] theorem aIa{y0 y1}:goC I f l r (.step (.conv y0 y1) t) k val=(Tree.step (.conv y0 y1) t).go I k val:=rfl
@[simp] theorem aIg{y0}:goC I f l r (.step (.len y0) t) k val=(Tree.step (.len y0) t).go I k val:=rfl
@[simp] theorem aIu{y0}:goC I f l r (.step (.slen y0) t) k val=(Tree.step (.slen y0) t).go I k val:=rfl
@[simp] theorem aIe{y0 y1}:goC I f l r (.step (.Cb y0 y1) t) k val=(Tree.step (.Cb y0 y1) t).go I k val:=rfl
@[simp] theorem aIt{y0 y1}:goC I f l r (.step (.IX y0 y1) t) k val=(Tree.step (.IX y0 y1) t).go I k val:=rfl
@[simp] theorem aIv{y0 y1 y2}:goC I f l r (.step (.IY y0 y1 y2) t) k val=(Tree.step (.IY y0 y1 y2) t).go I k val:=rfl
@[simp] theorem aIh{y0 y1 y2 y3}:goC I f l r (.step (.FB y0 y1 y2 y3) t) k val=(Tree.step (.FB y0 y1 y2 y3) t).go I k val:=rfl
@[simp] theorem aId{y0 y1}:goC I f l r (.step (.idx y0 y1) t) k val=(Tree.step (.idx y0 y1) t).go I k val:=rfl
@[simp] theorem aH1{y0 y1 y2}:goC I f l r (.step (.at y0 y1 y2) t) k val=(Tree.step (.at y0 y1 y2) t).go I k val:=rfl
@[simp] theorem aH8{y0 y1}:goC I f l r (.step (.cell y0 y1) t) k val=(Tree.step (.cell y0 y1) t).go I k val:=rfl
@[simp] theorem aIk{y0}:goC I f l r (.step (.mk y0) t) k val=(Tree.step (.mk y0) t).go I k val:=rfl
@[simp] theorem aIl{y0}:goC I f l r (.step (.ml y0) t) k val=(Tree.step (.ml y0) t).go I k val:=rfl
@[simp] theorem aH0{y0 y1 y2 y3}:goC I f l r (.step (.app y0 y1 y2 y3) t) k val=(Tree.step (.app y0 y1 y2 y3) t).go I k val:=rfl
@[simp] theorem aIz{y0 y1 y2 y3 y4}:goC I f l r (.step (.upd y0 y1 y2 y3 y4) t) k val=(Tree.step (.upd y0 y1 y2 y3 y4) t).go I k val:=rfl
@[simp] theorem aIp{y0 y1 y2 y3 y4}:goC I f l r (.step (.rep y0 y1 y2 y3 y4) t) k val=(Tree.step (.rep y0 y1 y2 y3 y4) t).go I k val:=rfl
@[simp] theorem aH5{y0}:goC I f l r (.step (.bytes y0) t) k val=(Tree.step (.bytes y0) t).go I k val:=rfl
@[simp] theorem aIw{y0}:goC I f l r (.step (.str y0) t) k val=(Tree.step (.str y0) t).go I k val:=rfl
@[simp] theorem aIr{y0 y1}:goC I f l r (.step (.same y0 y1) t) k val=(Tree.step (.same y0 y1) t).go I k val:=rfl
@[simp] theorem aIs{y0}:goC I f l r (.step (.IW y0) t) k val=(Tree.step (.IW y0) t).go I k val:=rfl
@[simp] theorem aIi{y0 y1 y2}:goC I f l r (.step (.Iu y0 y1 y2) t) k val=(Tree.step (.Iu y0 y1 y2) t).go I k val:=rfl
@[simp] theorem aIj{y0 y1}:goC I f l r (.step (.Iw y0 y1) t) k val=(Tree.step (.Iw y0 y1) t).go I k val:=rfl
@[simp] theorem aIn{y0 y1 y2}:goC I f l r (.step (.DT y0 y1 y2) t) k val=(Tree.step (.DT y0 y1 y2) t).go I k val:=rfl
