/- Plain laws over trees: values of one's own as ground values; how a tree is gone through. -/
import Derived.Test.YteenmipdepcibaaGreatDoorAbsJ
set_option linter.unusedSimpArgs false
namespace Go.aN
theorem Ie{Ds:W7}{k:Nat}{d:aF}{gs out:Q1}(hk:Ds[k]? =some d)(h:d.den (xX Ds).lim gs=some out):(xX Ds).lim k gs=some out:=iI.as3 hk h
def upd(val:W6)(k:Nat)(g:GV):Nat->Option GV:=λn=>if n=k then some g else val n
def Xo(gs:Q1):Nat->Option GV:=λn=>gs[n]?
@[simp] theorem aBu{gs:Q1}{n:Nat}:Xo gs n=gs[n]?:=rfl
@[simp] theorem upd_same{val:W6}{k:Nat}{g:GV}:upd val k g k=some g:=aj rfl
@[simp] theorem upd_ne{val:W6}{k n:Nat}{g:GV}(h:n≠k):upd val k g n=val n:=ah h
def Tree.go(I:iC):Tree->Nat->(W6)->Option Q1
 |.step nd t,k,val=>match nd.den I val with
  |some g=>t.go I (k+1) (upd val k g)
  |none=>none
 |.ite n t e,k,val=>match val n with
  |some (.b true)=>t.go I k val
  |some (.b false)=>e.go I k val
  |_=>none
 |.ret l,_,val=>valsOf val l
 |.tail f l,_,val=>match valsOf val l with
  |some gs=>I f gs
  |none=>none
 |.dead,_,_=>none
theorem Tree.OA{I:iC}:∀(t:Tree)(env:Q1),t.go I env.length (λn=>env[n]?)=t.den I env
 |.step nd t,env=>by
  simp only[Tree.go,Tree.den];cases nd.den I λn=>env[n]? with
  |none=>rfl
  |some g=>
   simp only;rw[<-Tree.OA t (env++[g])];congr 1
   ·simp
   ·funext n;unfold upd;split
    ·next h=>subst h;simp
    ·next h=>
     show env[n]? =(env++[g])[n]?
     rcases xU n env.length with hl|hl
     ·rw[mP hl]
     ·rw[vF hl,vG (l:=env) hl,vG];simp;omega
 |.ite n t e,env=>by simp only[Tree.go,Tree.den,Tree.OA t env,Tree.OA e env];rfl
 |.ret l,env=>rfl
 |.tail f l,env=>rfl
 |.dead,env=>rfl
def ac6(o:W0)(I:iC)(t:Tree)(k:Nat)(val:W6):Wk:=match o with
 |some g=>t.go I (k+1) (upd val k g)
 |none=>none
def adX(o:W0)(I:iC)(t e:Tree)(k:Nat)(val:W6):Wk:=match o with
 |some (.b true)=>t.go I k val
 |some (.b false)=>e.go I k val
 |_=>none
section
variable{I:iC}{k:Nat}{val:W6}
@[simp] theorem akJ{g:GV}{t:Tree}:ac6 (some g) I t k val=t.go I (k+1) (upd val k g):=rfl
@[simp] theorem aB6{c:Bool}{t e:Tree}:adX (some (.b c)) I t e k val=if c=true then t.go I k val else e.go I k val:=by cases c<;>rfl
@[simp] theorem aAj{nd:Nd}{t:Tree}:(Tree.step nd t).go I k val=ac6 (nd.den I val) I t k val:=rfl
@[simp] theorem aDP{n:Nat}{t e:Tree}:(Tree.ite n t e).go I k val=adX (val n) I t e k val:=rfl
@[simp] theorem aDQ{l:Q2}:(Tree.ret l).go I k val=valsOf val l:=rfl
@[simp] theorem aDO:Tree.dead.go I k val=none:=rfl
@[simp] theorem aDR{f:Nat}{l:Q2}:(Tree.tail f l).go I k val=(valsOf val l).bind (I f):=by simp only[Tree.go];cases valsOf val l<;>rfl
end
@[simp] theorem aup{I:iC}{f j:Nat}{l:Q2}{val:W6}:(Nd.call f l j).den I val=(valsOf val l).bind λgs=>(I f gs).bind λr=>r[j]?:=by
 simp only[Nd.den];cases valsOf val l with
 |none=>rfl
 |some gs=>simp only[yQ];cases I f gs<;>rfl
@[simp] theorem aDU{val:W6}:valsOf val []=some []:=rfl
@[simp] theorem ajw{val:W6}{n:Nat}{l:Q2}:valsOf val (n::l)=(val n).bind λg=>(valsOf val l).bind λr=>some (g::r):=by simp only[valsOf];cases val n<;>cases valsOf val l<;>rfl
def iK(op:BinOp)(x y:W0):W0:=match x,y with
 |some a,some b=>gZ op a b
 |_,_=>none
def Xu(op:BinOp)(x y:W0):W0:=match x,y with
 |some a,some b=>Rn op a b
 |_,_=>none
def NT(op:BinOp)(ks:Q2)(x y:W0):W0:=match x,y with
 |some a,some b=>J7 op ks a b
 |_,_=>none
def V7(op:UnOp)(x:W0):W0:=match x with
 |some a=>V8 op a
 |none=>none
section
variable{I:iC}{val:W6}
@[simp] theorem aC8{k:IntKind}{n:Int}:(Nd.ci k n).den I val=some (.i k n):=rfl
@[simp] theorem aC6{x:Bool}:(Nd.cb x).den I val=some (.b x):=rfl
@[simp] theorem aDa{x:Q0}:(Nd.cs x).den I val=some (.s x):=rfl
@[simp] theorem aC2{op:BinOp}{a b:Nat}:(Nd.bin op a b).den I val=iK op (val a) (val b):=rfl
@[simp] theorem aC3{op:BinOp}{a b:Nat}:(Nd.Et op a b).den I val=Xu op (val a) (val b):=rfl
@[simp] theorem aC4{op:BinOp}{ks:Q2}{a b:Nat}:(Nd.Eu op ks a b).den I val=NT op ks (val a) (val b):=rfl
@[simp] theorem aDs{op:UnOp}{a:Nat}:(Nd.un op a).den I val=V7 op (val a):=rfl
def O8(big:Bool)(x y:W0):W0:=match x,y with
 |some (.i k x),some (.i k' y)=>if k=k' then some (.i k (if big then(if x<y then y else x)else(if y<x then y else x)))else none
 |_,_=>none
@[simp] theorem aDj{g:Bool}{a b:Nat}:(Nd.mm g a b).den I val=O8 g (val a) (val b):=rfl
@[simp] theorem aCY{k:IntKind}{x y:Int}:O8 true (some (.i k x)) (some (.i k y))=some (.i k (if x<y then y else x)):=by simp[O8]
@[simp] theorem aCX{k:IntKind}{x y:Int}:O8 false (some (.i k x)) (some (.i k y))=some (.i k (if y<x then y else x)):=by simp[O8]
def adZ(k:IntKind)(x:W0):W0:=match x with
 |some (.i _ n)=>some (.i k (k.wrap n))
 |_=>none
@[simp] theorem aC9{k:IntKind}{a:Nat}:(Nd.conv k a).den I val=adZ k (val a):=rfl
@[simp] theorem aB7{k k':IntKind}{n:Int}:adZ k (some (.i k' n))=some (.i k (k.wrap n)):=rfl
def len1(x:W0):W0:=match x with
 |some (.l xs)=>some (.i .i64 xs.length)
 |_=>none
@[simp] theorem aDd{a:Nat}:(Nd.len a).den I val=len1 (val a):=rfl
@[simp] theorem aCU{xs:Q1}:len1 (some (.l xs))=some (.i .i64 xs.length):=rfl
def aiJ(x:W0):W0:=match x with
 |some (.s x)=>some (.i .i64 x.length)
 |_=>none
@[simp] theorem aDp{a:Nat}:(Nd.slen a).den I val=aiJ (val a):=rfl
@[simp] theorem aDI{x:Q0}:aiJ (some (.s x))=some (.i .i64 x.length):=rfl
def aa7(x i:W0):W0:=match x,i with
 |some (.s x),some (.i _ k)=>if 0<=k then match x[k.toNat]? with
  |some c=>some (.i .u8 c.toNat)
  |none=>none
  else none
 |_,_=>none
@[simp] theorem aDo{a i:Nat}:(Nd.FN a i).den I val=aa7 (val a) (val i):=rfl
@[simp] theorem aDH{x:Q0}{kk:IntKind}{k:Int}:aa7 (some (.s x)) (some (.i kk k))=if 0<=k then(x[k.toNat]?).bind λc=>some (.i .u8 c.toNat)else none:=by
 simp only[aa7];split
 ·cases x[k.toNat]?<;>rfl
 ·rfl
def aiU(x lo hi:W0):W0:=match x,lo,hi with
 |some (.s x),some (.i _ l),some (.i _ h)=>if 0<=l/\l<=h/\h<=x.length then some (.s ((x.take h.toNat).drop l.toNat))else none
 |_,_,_=>none
@[simp] theorem aDq{a l h:Nat}:(Nd.FP a l h).den I val=aiU (val a) (val l) (val h):=rfl
def agS(z m k:W0):W0:=match z,m,k with
 |some d,some (.l xs),some g=>some ((iE g xs).getD d)
 |_,_,_=>none
def agT(m k:W0):W0:=match m,k with
 |some (.l xs),some g=>some (.b (iE g xs).isSome)
 |_,_=>none
def agU(m k v:W0):W0:=match m,k,v with
 |some (.l xs),some g,some u=>some (.l (lI g u xs))
 |_,_,_=>none
@[simp] theorem aDf{z m k:Nat}:(Nd.Fe z m k).den I val=agS (val z) (val m) (val k):=rfl
@[simp] theorem aDg{m k:Nat}:(Nd.Fg m k).den I val=agT (val m) (val k):=rfl
@[simp] theorem aDk{m k v:Nat}:(Nd.AY m k v).den I val=agU (val m) (val k) (val v):=rfl
@[simp] theorem aCV{d g:GV}{xs:Q1}:agS (some d) (some (.l xs)) (some g)=some ((iE g xs).getD d):=rfl
@[simp] theorem aCW{g:GV}{xs:Q1}:agT (some (.l xs)) (some g)=some (.b (iE g xs).isSome):=rfl
@[simp] theorem aCZ{g u:GV}{xs:Q1}:agU (some (.l xs)) (some g) (some u)=some (.l (lI g u xs)):=rfl
@[simp] theorem aDN{x:Q0}{k k':IntKind}{l h:Int}:aiU (some (.s x)) (some (.i k l)) (some (.i k' h))=if 0<=l/\l<=h/\h<=x.length then some (.s ((x.take h.toNat).drop l.toNat))else none:=rfl
def Lj(size:Nat)(x lo hi:W0):W0:=match x,lo,hi with
 |some (.l xs),some (.i _ l),some (.i _ h)=>if 0<=l/\l<=h/\h<=xs.length/\(xs.all λx=>Nat.beq x.cells.length size)=true then some (.l ((xs.take h.toNat).drop l.toNat))else none
 |_,_,_=>none
@[simp] theorem aDe{s a l h:Nat}:(Nd.Dk s a l h).den I val=Lj s (val a) (val l) (val h):=rfl
@[simp] theorem lD{s:Nat}{xs:Q1}{k k':IntKind}{l h:Int}:Lj s (some (.l xs)) (some (.i k l)) (some (.i k' h))=if 0<=l/\l<=h/\h<=xs.length/\(xs.all λx=>Nat.beq x.cells.length s)=true then some (.l ((xs.take h.toNat).drop l.toNat))else none:=rfl
def Dc(x i:W0):W0:=match x,i with
 |some (.l xs),some (.i _ k)=>if 0<=k/\k<xs.length then some (.i .i64 k)else none
 |_,_=>none
@[simp] theorem aDb{a i:Nat}:(Nd.idx a i).den I val=Dc (val a) (val i):=rfl
@[simp] theorem jh{xs:Q1}{kk:IntKind}{k:Int}:Dc (some (.l xs)) (some (.i kk k))=if 0<=k/\k<xs.length then some (.i .i64 k)else none:=rfl
def at2(size:Nat)(x i:W0):W0:=match x,i with
 |some (.l xs),some (.i _ k)=>if 0<=k then match xs[k.toNat]? with
  |some x=>if x.cells.length=size then some x else none
  |none=>none
  else none
 |_,_=>none
@[simp] theorem aC1{s a i:Nat}:(Nd.at s a i).den I val=at2 s (val a) (val i):=rfl
@[simp] theorem dY{s:Nat}{xs:Q1}{kk:IntKind}{k:Int}:at2 s (some (.l xs)) (some (.i kk k))=if 0<=k then(xs[k.toNat]?).bind λx=>if x.cells.length=s then some x else none else none:=by
 simp only[at2];split
 ·cases xs[k.toNat]?<;>rfl
 ·rfl
def cell1(off:Nat)(x:W0):W0:=match x with
 |some g=>match g.cells[off]? with
  |some c=>if c.scalar then some c else none
  |none=>none
 |none=>none
@[simp] theorem aC7{o a:Nat}:(Nd.cell o a).den I val=cell1 o (val a):=rfl
@[simp] theorem aB1{o:Nat}{g:GV}:cell1 o (some g)=(g.cells[o]?).bind λc=>if c.scalar=true then some c else none:=by simp only[cell1];cases g.cells[o]?<;>rfl
@[simp] theorem aDh{l:Q2}:(Nd.mk l).den I val=(valsOf val l).bind λgs=>if gs.all GV.scalar=true then some (.g gs)else none:=by simp only[Nd.den];cases valsOf val l<;>rfl
@[simp] theorem aDi{l:Q2}:(Nd.ml l).den I val=(valsOf val l).bind λgs=>some (.l gs):=by simp only[Nd.den];cases valsOf val l<;>rfl
def Gs(size bs:Nat)(x y:W0):W0:=match x,y with
 |some (.l xs),some (.l ys)=>if ys.all (GV.fC size)=true/\2*(xs.length+ys.length)*bs<=2^48/\xs.length+ys.length<=2^48 then some (.l (xs++ys))else none
 |_,_=>none
@[simp] theorem aC0{z s a b:Nat}:(Nd.app z s a b).den I val=Gs z s (val a) (val b):=rfl
@[simp] theorem Eo{z s:Nat}{xs ys:Q1}:Gs z s (some (.l xs)) (some (.l ys))=if ys.all (GV.fC z)=true/\2*(xs.length+ys.length)*s<=2^48/\xs.length+ys.length<=2^48 then some (.l (xs++ys))else none:=rfl
def D7(size off:Nat)(x i:W0)(vs:Wk):W0:=match x,i,vs with
 |some (.l xs),some (.i _ k),some gs=>if 0<=k/\gs.all GV.scalar=true then match xs[k.toNat]? with
  |some x=>if x.cells.length=size then(x.put off gs).map λy=>.l (xs.set k.toNat y)else none
  |none=>none
  else none
 |_,_,_=>none
@[simp] theorem aDt{s o a i:Nat}{vs:Q2}:(Nd.upd s o a i vs).den I val=D7 s o (val a) (val i) (valsOf val vs):=rfl
@[simp] theorem sF{s o:Nat}{xs:Q1}{kk:IntKind}{k:Int}{gs:Q1}:D7 s o (some (.l xs)) (some (.i kk k)) (some gs)=if 0<=k/\gs.all GV.scalar=true then(xs[k.toNat]?).bind λx=>if x.cells.length=s then(x.put o gs).map λy=>.l (xs.set k.toNat y)else none else none:=by
 simp only[D7];split
 ·cases xs[k.toNat]?<;>rfl
 ·rfl
@[simp] theorem aDy{k:IntKind}{n:Int}{v:GV}:(GV.i k n).put 0 [v]=some v:=rfl
def ah5(size Xv:Nat)(z l c:W0):W0:=match z,l,c with
 |some x,some (.i _ n),some (.i _ m)=>if 0<=n/\n<=m/\Xv*m<=2^48/\m<=2^60/\x.fC size=true then some (.l (List.replicate n.toNat x))else none
 |_,_,_=>none
@[simp] theorem aDl{s b z l c:Nat}:(Nd.rep s b z l c).den I val=ah5 s b (val z) (val l) (val c):=rfl
@[simp] theorem aDz{s b:Nat}{x:GV}{k k':IntKind}{n m:Int}:ah5 s b (some x) (some (.i k n)) (some (.i k' m))=if 0<=n/\n<=m/\b*m<=2^48/\m<=2^60/\x.fC s=true then some (.l (List.replicate n.toNat x))else none:=by cases x<;>rfl
@[simp] theorem aC5{a:Nat}:(Nd.bytes a).den I val=(val a).bind λg=>match g with|.s x=>some (.l (bT x))|_=>none:=by
 simp only[Nd.den];cases val a with
 |none=>rfl
 |some g=>cases g<;>rfl
@[simp] theorem aDr{a:Nat}:(Nd.str a).den I val=(val a).bind λg=>match g with|.l xs=>if xs.length<=2^48 then(mY xs).map .s else none|_=>none:=by
 simp only[Nd.den];cases val a with
 |none=>rfl
 |some g=>cases g<;>rfl
@[simp] theorem aDm{a b:Nat}:(Nd.same a b).den I val=(val a).bind λg=>(val b).bind λh=>match g,h with|.l xs,.l ys=>if ys.length=xs.length then some (.l ys)else none|_,_=>none:=by
 simp only[Nd.den];cases val a with
 |none=>rfl
 |some g=>cases val b with
  |none=>cases g<;>rfl
  |some h=>cases g<;>cases h<;>rfl
@[simp] theorem aDc{a j:Nat}:(Nd.zq a j).den I val=(val a).bind λg=>match g with|.i _ m=>some (.b (decide (m=(j:Int))))|_=>none:=by
 simp only[Nd.den];cases val a with
 |none=>rfl
 |some g=>cases g<;>rfl
@[simp] theorem aDn{a:Nat}:(Nd.FM a).den I val=(val a).bind λg=>match g with|.s x=>some (.s x)|_=>none:=by
 simp only[Nd.den];cases val a with
 |none=>rfl
 |some g=>cases g<;>rfl
end
section
variable{k:IntKind}{a b:Int}
@[simp] theorem aBv:iK .add (some (.i k a)) (some (.i k b))=some (.i k (k.wrap (a+b))):=by simp[iK,gZ,bQ]
@[simp] theorem aBQ:iK .sub (some (.i k a)) (some (.i k b))=some (.i k (k.wrap (a-b))):=by simp[iK,gZ,bQ]
@[simp] theorem aBC:iK .mul (some (.i k a)) (some (.i k b))=some (.i k (k.wrap (a*b))):=by simp[iK,gZ,bQ]
@[simp] theorem aBF:iK .quo (some (.i k a)) (some (.i k b))=if b=0 then none else some (.i k (k.wrap (a.tdiv b))):=by simp[iK,gZ,bQ]
@[simp] theorem aBG:iK .rem (some (.i k a)) (some (.i k b))=if b=0 then none else some (.i k (a.tmod b)):=by simp[iK,gZ,bQ]
@[simp] theorem aBx:iK .eql (some (.i k a)) (some (.i k b))=some (.b (decide (a=b))):=by simp only[iK,gZ,bQ,if_true];rw[show(a==b)=decide (a=b)from rfl]
@[simp] theorem aBD:iK .neq (some (.i k a)) (some (.i k b))=some (.b (decide (a≠b))):=by simp only[iK,gZ,bQ,if_true,bne];rw[show(a==b)=decide (a=b)from rfl,<-decide_not]
@[simp] theorem aBB:iK .lss (some (.i k a)) (some (.i k b))=some (.b (decide (a<b))):=by simp[iK,gZ,bQ]
@[simp] theorem aBA:iK .leq (some (.i k a)) (some (.i k b))=some (.b (decide (a<=b))):=by simp[iK,gZ,bQ]
@[simp] theorem aBz:iK .gtr (some (.i k a)) (some (.i k b))=some (.b (decide (b<a))):=by simp[iK,gZ,bQ]
@[simp] theorem aBy:iK .geq (some (.i k a)) (some (.i k b))=some (.b (decide (b<=a))):=by simp[iK,gZ,bQ]
@[simp] theorem aBw:iK .and (some (.i k a)) (some (.i k b))=bQ .and k a b:=by simp[iK,gZ]
@[simp] theorem aBE:iK .or (some (.i k a)) (some (.i k b))=bQ .or k a b:=by simp[iK,gZ]
@[simp] theorem aBR:iK .xor (some (.i k a)) (some (.i k b))=bQ .xor k a b:=by simp[iK,gZ]
@[simp] theorem aBL{k':IntKind}:iK .shl (some (.i k a)) (some (.i k' b))=jB .shl k a b:=rfl
@[simp] theorem aBM{k':IntKind}:iK .shr (some (.i k a)) (some (.i k' b))=jB .shr k a b:=rfl
end
section
variable{a b:Q0}
@[simp] theorem aBH:iK .add (some (.s a)) (some (.s b))=if((a.length+b.length:Nat):Int)<=9223372036854775807 then some (.s (a++b))else none:=by simp only[iK,gZ,wM];rfl
@[simp] theorem aBI:iK .eql (some (.s a)) (some (.s b))=some (.b (decide (a=b))):=by simp only[iK,gZ,wM];congr 2;rw[wU];simp
@[simp] theorem aBP:iK .neq (some (.s a)) (some (.s b))=some (.b (decide (a≠b))):=by simp only[iK,gZ,wM];congr 2;rw[wU];simp
@[simp] theorem aBO:iK .lss (some (.s a)) (some (.s b))=some (.b (Op.bytesLess a b)):=rfl
@[simp] theorem aBJ:iK .geq (some (.s a)) (some (.s b))=some (.b (!(Op.bytesLess a b))):=rfl
@[simp] theorem aBN:iK .leq (some (.s a)) (some (.s b))=some (.b (Op.bytesLess a b ||a==b)):=rfl
@[simp] theorem aBK:iK .gtr (some (.s a)) (some (.s b))=some (.b (!(Op.bytesLess a b ||a==b))):=rfl
end
@[simp] theorem aBS{a b:Bool}:Xu .eql (some (.b a)) (some (.b b))=some (.b (a==b)):=rfl
@[simp] theorem aBT{a b:Bool}:Xu .neq (some (.b a)) (some (.b b))=some (.b (!(a==b))):=rfl
@[simp] theorem aBU{ks:Q2}{a b:Q1}:NT .eql ks (some (.g a)) (some (.g b))=(lQ ks a b).bind λr=>some (.b r):=by simp only[NT,J7];cases lQ ks a b<;>rfl
@[simp] theorem aBV{ks:Q2}{a b:Q1}:NT .neq ks (some (.g a)) (some (.g b))=(lQ ks a b).bind λr=>some (.b (!r)):=by simp only[NT,J7];cases lQ ks a b<;>rfl
@[simp] theorem aDT{a:Bool}:V7 .not (some (.b a))=some (.b (!a)):=rfl
@[simp] theorem aDS{k:IntKind}{a:Int}:V7 .neg (some (.i k a))=some (.i k (k.wrap (0-a))):=rfl
@[simp] theorem ak9{cs:Q1}:(GV.g cs).cells=cs:=rfl
@[simp] theorem aB3{k:IntKind}{n:Int}:(GV.i k n).cells=[.i k n]:=rfl
@[simp] theorem aB2{x:Bool}:(GV.b x).cells=[.b x]:=rfl
@[simp] theorem aB5{x:Q0}:(GV.s x).cells=[.s x]:=rfl
@[simp] theorem aB4{x:Q1}:(GV.l x).cells=[.l x]:=rfl
@[simp] theorem aDD{cs:Q1}:(GV.g cs).scalar=false:=rfl
@[simp] theorem aDE{k:IntKind}{n:Int}:(GV.i k n).scalar=true:=rfl
@[simp] theorem aDC{x:Bool}:(GV.b x).scalar=true:=rfl
@[simp] theorem aDG{x:Q0}:(GV.s x).scalar=true:=rfl
@[simp] theorem aDF{x:Q1}:(GV.l x).scalar=true:=rfl
theorem aP{Ds:W7}{k:Nat}{si so:WK}{t:Tree}{gs out:Q1}(hk:Ds[k]? =some (.fn si so t))(hi:oW si gs=true)(h:t.go (xX Ds).lim gs.length (Xo gs)=some out)(ho:oW so out=true):(xX Ds).lim k gs=some out:=by have h:t.den (xX Ds).lim gs=some out:=(Tree.OA t gs).symm.trans h;exact Ie hk (by simp only[aF.den,aj hi,h,aj ho])
theorem au{Ds:W7}{k n:Nat}{t:Tree}{gs out:Q1}(hk:Ds[k]? =some (.tree n t))(hn:gs.length=n)(h:t.go (xX Ds).lim gs.length (Xo gs)=some out):(xX Ds).lim k gs=some out:=by have h:t.den (xX Ds).lim gs=some out:=(Tree.OA t gs).symm.trans h;exact Ie hk (by simp only[aF.den,aj hn,h])
theorem yA{Ds:W7}{k:Nat}{f:Q1->Option Q1}{gs out:Q1}(hk:Ds[k]? =some (.eH f))(h:f gs=some out):(xX Ds).lim k gs=some out:=
 Ie hk h
theorem arq{gs:Q1}(h:hasArgs [] gs):gs=[]:=by simpa only[hasArgs]using h
theorem afv{l:WD}{r:List (Bool×WD)}{gs:Q1}(h:hasArgs ((true,l)::r) gs):∃cs gs',gs=.g cs::gs'/\bP.iU l cs/\hasArgs r gs':=by
 simp only[hasArgs]at h;obtain⟨g,gs',rfl,h1,h2,h3⟩:=h;cases g<;>simp[GV.scalar]at h2
 exact⟨_,_,rfl,h1,h3⟩
theorem oL{t:bP}{l:WD}{gs:Q1}(h:bP.iU (t::l) gs):∃g r,gs=g::r/\t.has g/\bP.iU l r:=by simpa only[bP.iU]using h
theorem KU{gs:Q1}(h:bP.iU [] gs):gs=[]:=by simpa only[bP.iU]using h
theorem OH{t:bP}{r:List (Bool×WD)}{gs:Q1}(h:hasArgs ((false,[t])::r) gs):∃g gs',gs=g::gs'/\t.has g/\hasArgs r gs':=by simp only[hasArgs]at h;obtain⟨g,gs',rfl,h1,h2,h3⟩:=h;refine⟨_,_,rfl,?_,h3⟩;obtain⟨g0,r0,e,h4,h5⟩:=oL h1;cases g<;>simp[GV.scalar]at h2<;>simp only[GV.cells,yL]at e<;>rw[e.1]<;>exact h4
theorem Hz{g:GV}(h:(bP.int .u64).has g):∃n,g=.i .u64 n/\0<=n/\n<18446744073709551616:=by simp only[bP.has]at h;obtain⟨n,rfl,h1,h2⟩:=h;exact⟨n,rfl,by simpa[IntKind.min,IntKind.signed]using h1,by simp[IntKind.max,IntKind.signed,IntKind.bits]at h2;omega⟩
theorem afw{g:GV}(h:bP.str.has g):∃s,g=.s s/\s.length<=reachBytes:=by simpa only[bP.has]using h
theorem TL{b:Bool}{e:WD}{g:GV}(h:(bP.list b e).has g):∃xs,g=.l xs/\xs.length<=reachBytes/\∀x∈xs,bP.iU e x.cells/\x.scalar = !b:=by simpa only[bP.has]using h
theorem O1{α:Type}{f:α->GV}{p:α->Prop}:∀{xs:Q1},(∀x∈xs,∃r,p r/\x=f r)->∃rs:List α,(∀r∈rs,p r)/\xs=rs.map f
 |[],_=>⟨[],by simp,rfl⟩
 |x::xs,h=>by
  obtain⟨r,h1,h2⟩:=h x (by simp);obtain⟨rs,h3,h4⟩:=O1 (xs:=xs) λy hy=>h y (by simp[hy]);refine⟨r::rs,λq hq=>?_,by rw[h2,h4];rfl⟩;rcases bG.1 hq with rfl|hq
  ·exact h1
  ·exact h3 q hq
theorem wrap64{n:Int}(h0: -9223372036854775808<=n)(h1:n<=9223372036854775807):IntKind.i64.wrap n=n:=by
 have:IntKind.i64.wrap n=if n%18446744073709551616>=9223372036854775808 then n%18446744073709551616-18446744073709551616 else n%18446744073709551616:=by simp[IntKind.wrap,IntKind.signed,IntKind.bits]
 rw[this];split<;>omega
theorem gJ{n:Int}(h0:0<=n)(h1:n<18446744073709551616):IntKind.u64.wrap n=n:=by
 have:IntKind.u64.wrap n=n%18446744073709551616:=by simp[IntKind.wrap,IntKind.signed,IntKind.bits]
 rw[this];omega
def goC(I:iC)(f:Nat)(l:Q2)(r:Wk):Tree->Nat->(W6)->Option Q1
 |.step nd t,k,val=>match nd with
  |.call f' l' j=>if f'=f/\l'=l then(match r.bind λr=>r[j]? with
    |some g=>goC I f l r t (k+1) (upd val k g)
    |none=>none)else(Tree.step (.call f' l' j) t).go I k val
  |nd=>(Tree.step nd t).go I k val
 |t,k,val=>t.go I k val
theorem ajx{val:W6}{k:Nat}{g:GV}:∀{l:Q2},(l.all λi=>Nat.blt i k)=true->valsOf (upd val k g) l=valsOf val l
 |[],_=>rfl
 |n::l,h=>by simp only[qK,aK,jd]at h;rw[ajw,ajw,ajx h.2,upd_ne (by omega)]
theorem afg{I:iC}{f:Nat}{l:Q2}{r:Wk}:∀(t:Tree)(k:Nat)(val:W6),(l.all λi=>Nat.blt i k)=true->(valsOf val l).bind (I f)=r->t.go I k val=goC I f l r t k val
 |.step nd t,k,val,hl,hr=>by
  cases nd with
  |call f' l' j=>
   simp only[goC];split
   ·next h=>
    obtain⟨rfl,rfl⟩:=h;rw[aAj,aup];have e:((valsOf val l').bind λgs=>(I f' gs).bind λr=>r[j]?)=r.bind λr=>r[j]?:=by rw[<-hr];cases valsOf val l'<;>rfl
    rw[e];cases r.bind λr=>r[j]? with
    |none=>rfl
    |some g=>
     simp only[akJ];refine afg t (k+1) (upd val k g) ?_ ?_
     ·rw[List.all_eq_true]at hl⊢;intro i hi;have:=hl i hi;rw[jd]at this⊢;omega
     ·rw[ajx hl];exact hr
   ·rfl
  |_=>rfl
 |.ite n t e,k,val,_,_=>rfl
 |.ret l',k,val,_,_=>rfl
 |.tail f' l',k,val,_,_=>rfl
 |.dead,k,val,_,_=>rfl
def ac5(o:W0)(I:iC)(f:Nat)(l:Q2)(r:Wk)(t:Tree)(k:Nat)(val:W6):Wk:=match o with
 |some g=>goC I f l r t (k+1) (upd val k g)
 |none=>none
section
variable{I:iC}{f:Nat}{l:Q2}{r:Wk}{k:Nat}{val:W6}{t:Tree}
theorem Oz{j:Nat}(h:(l.all λi=>decide (i<k))=true):(Tree.step (.call f l j) t).go I k val=goC I f l ((valsOf val l).bind (I f)) (.step (.call f l j) t) k val:=afg _ _ _ (by rw[List.all_eq_true]at h⊢;intro i hi;have:=h i hi;rw[decide_eq_true_iff]at this;rw[jd];exact this) rfl
@[simp high] theorem aCl{r:Q1}{j:Nat}:goC I f l (some r) (.step (.call f l j) t) k val=ac5 (r[j]?) I f l (some r) t k val:=by simp only[goC,and_self,if_true,yQ];cases r[j]?<;>rfl
@[simp] theorem aBW{g:GV}:ac5 (some g) I f l r t k val=goC I f l r t (k+1) (upd val k g):=rfl
@[simp] theorem aCD{f' j:Nat}{l':Q2}(h:¬(f'=f/\l'=l)):goC I f l r (.step (.call f' l' j) t) k val=(Tree.step (.call f' l' j) t).go I k val:=by simp only[goC,ah h]
@[simp] theorem aCu{n:Nat}{e:Tree}:goC I f l r (.ite n t e) k val=(Tree.ite n t e).go I k val:=rfl
@[simp] theorem aCF{l':Q2}:goC I f l r (.ret l') k val=(Tree.ret l').go I k val:=rfl
@[simp] theorem aCM{f':Nat}{l':Q2}:goC I f l r (.tail f' l') k val=(Tree.tail f' l').go I k val:=rfl
@[simp] theorem aCr:goC I f l r .dead k val=Tree.dead.go I k val:=rfl
@[simp] theorem aCo{y0 y1}:goC I f l r (.step (.ci y0 y1) t) k val=(Tree.step (.ci y0 y1) t).go I k val:=rfl
@[simp] theorem aCm{y0}:goC I f l r (.step (.cb y0) t) k val=(Tree.step (.cb y0) t).go I k val:=rfl
@[simp] theorem aCq{y0}:goC I f l r (.step (.cs y0) t) k val=(Tree.step (.cs y0) t).go I k val:=rfl
@[simp] theorem aCh{y0 y1 y2}:goC I f l r (.step (.bin y0 y1 y2) t) k val=(Tree.step (.bin y0 y1 y2) t).go I k val:=rfl
@[simp] theorem aCi{y0 y1 y2}:goC I f l r (.step (.Et y0 y1 y2) t) k val=(Tree.step (.Et y0 y1 y2) t).go I k val:=rfl
@[simp] theorem aCj{y0 y1 y2 y3}:goC I f l r (.step (.Eu y0 y1 y2 y3) t) k val=(Tree.step (.Eu y0 y1 y2 y3) t).go I k val:=rfl
@[simp] theorem aCN{y0 y1}:goC I f l r (.step (.un y0 y1) t) k val=(Tree.step (.un y0 y1) t).go I k val:=rfl
@[simp] theorem aCB{y0 y1 y2}:goC I f l r (.step (.mm y0 y1 y2) t) k val=(Tree.step (.mm y0 y1 y2) t).go I k val:=rfl
@[simp] theorem aCp{y0 y1}:goC I f l r (.step (.conv y0 y1) t) k val=(Tree.step (.conv y0 y1) t).go I k val:=rfl
@[simp] theorem aCv{y0}:goC I f l r (.step (.len y0) t) k val=(Tree.step (.len y0) t).go I k val:=rfl
@[simp] theorem aCJ{y0}:goC I f l r (.step (.slen y0) t) k val=(Tree.step (.slen y0) t).go I k val:=rfl
@[simp] theorem aCt{y0 y1}:goC I f l r (.step (.zq y0 y1) t) k val=(Tree.step (.zq y0 y1) t).go I k val:=rfl
@[simp] theorem aCI{y0 y1}:goC I f l r (.step (.FN y0 y1) t) k val=(Tree.step (.FN y0 y1) t).go I k val:=rfl
@[simp] theorem aCK{y0 y1 y2}:goC I f l r (.step (.FP y0 y1 y2) t) k val=(Tree.step (.FP y0 y1 y2) t).go I k val:=rfl
@[simp] theorem aCw{y0 y1 y2 y3}:goC I f l r (.step (.Dk y0 y1 y2 y3) t) k val=(Tree.step (.Dk y0 y1 y2 y3) t).go I k val:=rfl
@[simp] theorem aCs{y0 y1}:goC I f l r (.step (.idx y0 y1) t) k val=(Tree.step (.idx y0 y1) t).go I k val:=rfl
@[simp] theorem aCg{y0 y1 y2}:goC I f l r (.step (.at y0 y1 y2) t) k val=(Tree.step (.at y0 y1 y2) t).go I k val:=rfl
@[simp] theorem aCn{y0 y1}:goC I f l r (.step (.cell y0 y1) t) k val=(Tree.step (.cell y0 y1) t).go I k val:=rfl
@[simp] theorem aCz{y0}:goC I f l r (.step (.mk y0) t) k val=(Tree.step (.mk y0) t).go I k val:=rfl
@[simp] theorem aCA{y0}:goC I f l r (.step (.ml y0) t) k val=(Tree.step (.ml y0) t).go I k val:=rfl
@[simp] theorem aCf{y0 y1 y2 y3}:goC I f l r (.step (.app y0 y1 y2 y3) t) k val=(Tree.step (.app y0 y1 y2 y3) t).go I k val:=rfl
@[simp] theorem aCO{y0 y1 y2 y3 y4}:goC I f l r (.step (.upd y0 y1 y2 y3 y4) t) k val=(Tree.step (.upd y0 y1 y2 y3 y4) t).go I k val:=rfl
@[simp] theorem aCE{y0 y1 y2 y3 y4}:goC I f l r (.step (.rep y0 y1 y2 y3 y4) t) k val=(Tree.step (.rep y0 y1 y2 y3 y4) t).go I k val:=rfl
@[simp] theorem aCk{y0}:goC I f l r (.step (.bytes y0) t) k val=(Tree.step (.bytes y0) t).go I k val:=rfl
@[simp] theorem aCL{y0}:goC I f l r (.step (.str y0) t) k val=(Tree.step (.str y0) t).go I k val:=rfl
@[simp] theorem aCG{y0 y1}:goC I f l r (.step (.same y0 y1) t) k val=(Tree.step (.same y0 y1) t).go I k val:=rfl
@[simp] theorem aCH{y0}:goC I f l r (.step (.FM y0) t) k val=(Tree.step (.FM y0) t).go I k val:=rfl
@[simp] theorem aCx{y0 y1 y2}:goC I f l r (.step (.Fe y0 y1 y2) t) k val=(Tree.step (.Fe y0 y1 y2) t).go I k val:=rfl
@[simp] theorem aCy{y0 y1}:goC I f l r (.step (.Fg y0 y1) t) k val=(Tree.step (.Fg y0 y1) t).go I k val:=rfl
@[simp] theorem aCC{y0 y1 y2}:goC I f l r (.step (.AY y0 y1 y2) t) k val=(Tree.step (.AY y0 y1 y2) t).go I k val:=rfl
