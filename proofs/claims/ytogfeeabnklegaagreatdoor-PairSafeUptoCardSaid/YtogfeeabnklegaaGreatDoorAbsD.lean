/- Values that are named by nodes: numbers, texts, truth values, parts of what nobody changes. -/
import Derived.Test.YtogfeeabnklegaaGreatDoorAbsC
import Derived.Laws.StructEq
set_option linter.all false
namespace Go.aP
noncomputable section
variable[aJ]
variable{P:Program}{F:Env}{J J':aC}{w:World}
mutual
def mD:GV->AV
 |.b x=>.b x
 |.i k n=>.i k n
 |.s x=>.s x
 |.g cs=>.agg (eY cs)
 |.l xs=>.ro (eY xs)
def eY:Q1->List AV
 |[]=>[]
 |a::l=>mD a::eY l
end
def yP:∀l:Q1,eY l=l.map mD
 |[]=>rfl
 |a::l=>by simp[eY,yP l]
def oG(l:Q1):(eY l).length=l.length:=by rw[yP];simp
def Rf(l:Q1)(k:Nat):(eY l)[k]? =(l[k]?).map mD:=by rw[yP];simp
mutual
def nH:∀(g:GV)(v:Value),GR F.ro g v↔VR F (mD g) v
 |.b _,_=>by simp only[GR,VR,mD]
 |.i _ _,_=>by simp only[GR,VR,mD]
 |.s _,_=>by simp only[GR,VR,mD]
 |.g cs,v=>by
  simp only[GR,VR,mD];constructor
  ·rintro⟨vs,e,h⟩;exact⟨vs,e,(qX cs vs).1 h⟩
  ·rintro⟨vs,e,h⟩;exact⟨vs,e,(qX cs vs).2 h⟩
 |.l xs,v=>by
  simp only[GR,VR,mD,oG];have f:eY xs=[]↔xs=[]:=by cases xs<;>simp[eY]
  rw[f];constructor
  ·rintro(h|⟨i,a,c,d,j,e,k,h,l,m⟩)
   ·exact .inl h
   ·exact .inr ⟨i,a,c,d,j,e,k,(qX xs d).1 h,l,λb=>m (λe=>b (f.2 e))⟩
  ·rintro(h|⟨i,a,c,d,j,e,k,h,l,m⟩)
   ·exact .inl h
   ·exact .inr ⟨i,a,c,d,j,e,k,(qX xs d).2 h,l,λb=>m (λe=>b (f.1 e))⟩
def qX:∀(l:Q1)(vs:Q6),aU F.ro l vs↔aG F (eY l) vs
 |[],_=>by simp only[aU,aG,eY]
 |a::l,vs=>by
  simp only[aU,aG,eY];constructor
  ·rintro⟨x,xs,e,h1,b⟩;exact⟨x,xs,e,(nH a x).1 h1,(qX l xs).1 b⟩
  ·rintro⟨x,xs,e,h1,b⟩;exact⟨x,xs,e,(nH a x).2 h1,(qX l xs).2 b⟩
end
def Og(g:GV):(mD g).cells=eY g.cells:=by cases g<;>simp[mD,eY,AV.cells,GV.cells]
def aa0:∀l:Q1,(eY l).flatMap AV.cells=eY (l.flatMap GV.cells)
 |[]=>rfl
 |a::l=>by simp only[eY,kV,aa0 l,Og];rw[yP,yP,yP,oK]
def GR.cells{g:GV}{v:Value}(h:GR F.ro g v):aG F (eY g.cells) v.cells.toList:=by rw[<-Og];exact BN ((nH g v).1 h)
def GR.af8{g:GV}{v:Value}(h:GR F.ro g v):g.cells.length=v.cells.size:=by have:=h.cells.length;rw[oG]at this;simpa using this
def GV.LK{g:GV}(h:g.scalar=true):g.cells=[g]:=by cases g<;>first|rfl|(cases h)
def avm{g:GV}(h:g.scalar=true):(mD g).ql=true:=by cases g<;>first|rfl|(cases h)
def aa1:∀{l:Q1},l.all GV.scalar=true->(eY l).all AV.ql=true
 |[],_=>rfl
 |a::l,h=>by simp only[uG,aO]at h;simp only[eY,uG,aO];exact⟨avm h.1,aa1 h.2⟩
def aU.length{ro:Qf}:∀{l:Q1}{vs:Q6},aU ro l vs->l.length=vs.length
 |[],vs,h=>by simp only[aU]at h;subst h;rfl
 |a::l,vs,h=>by simp only[aU]at h;obtain⟨x,xs,rfl,_,b⟩:=h;simp[aU.length b]
def aU.at{ro:Qf}:∀{l:Q1}{vs:Q6},aU ro l vs->∀{k:Nat}{a:GV},l[k]? =some a->∃x,vs[k]? =some x/\GR ro a x
 |[],vs,h,k,a,c=>by simp at c
 |b::l,vs,h,k,a,c=>by
  simp only[aU]at h;obtain⟨x,xs,rfl,h1,d⟩:=h;cases k with
  |zero=>simp at c;subst c;exact⟨x,aA,h1⟩
  |succ k=>obtain⟨y,e,f⟩:=aU.at d (by simpa using c);exact⟨y,by simpa using e,f⟩
def iG{x:Nd}{n:Nat}(h:gI x=some n):∃g,aJ.val n=some g/\x.den aJ.I aJ.val=some g:=by obtain⟨a,b⟩:=aud h;exact aJ.uo n x a b
def apt{m f:Nat}(h:aas m f=true):(∃k a b,aJ.val m=some (.i k a)/\aJ.val f=some (.i k b)/\a≠b)\/(∃a b,aJ.val m=some (.s a)/\aJ.val f=some (.s b)/\a≠b):=by
 unfold aas at h;split at h
 ·next k a q b i j=>
  rw[aO]at h;have:=W9 h.1;subst this;obtain⟨g,n,c⟩:=aJ.uo _ _ i aA;obtain⟨p,o,d⟩:=aJ.uo _ _ j aA;simp only[Nd.den,bF]at c d;subst c;subst d;refine .inl ⟨k,a,b,n,o,λe=>?_⟩;subst e;rw[(aiM (a:=a) (b:=a)).2 rfl]at h;simp at h
 ·next a b i j=>
  obtain⟨g,n,c⟩:=aJ.uo _ _ i aA;obtain⟨p,o,d⟩:=aJ.uo _ _ j aA;simp only[Nd.den,bF]at c d;subst c;subst d;refine .inr ⟨a,b,n,o,λe=>?_⟩;subst e;rw[(afR (l:=a) (m:=a)).2 rfl]at h;simp at h
 ·cases h
def ab2{n m:Nat}:∀{l:Wk},(∀p∈l,aJ.val p.1=some (.b p.2))->IC n m l=true->(∃k a b,aJ.val n=some (.i k b)/\aJ.val m=some (.i k a)/\a≠b)\/(∃a b,aJ.val n=some (.s b)/\aJ.val m=some (.s a)/\a≠b)
 |[],_,h=>by simp[IC]at h
 |p::l,s,h=>by
  simp only[IC,qF]at h;rcases h with h|h
  ·cases d:p.2 with
   |false=>rw[d]at h;simp at h
   |true=>
    rw[d]at h;simp only[cond_true]at h;split at h
    ·next D E u=>
     rw[aO]at h;have e:=bV h.1;subst e;obtain⟨g,v,c⟩:=aJ.uo _ _ u aA;have t:=s p aA;rw[d,v]at t;cases t;simp only[Nd.den]at c;rcases apt h.2 with⟨k,a,b,f,i,j⟩|⟨a,b,f,i,j⟩
     ·rw[i]at c;split at c
      ·next x y o r=>
       cases r;cases x<;>simp only[jd,dw,reduceCtorEq]at c
       split at c
       ·next z=>
        subst z;simp only[bF,GV.b.injEq,beq_iff_eq]at c;subst c;exact .inl ⟨_,a,_,o,f,j⟩
       ·cases c
      ·cases c
     ·rw[i]at c;split at c
      ·next x y o r=>
       cases r;cases x<;>simp only[jd,zk,reduceCtorEq]at c
       simp only[bF,GV.b.injEq,beq_iff_eq]at c;subst c;exact .inr ⟨a,_,o,f,j⟩
      ·cases c
    ·cases h
  ·exact ab2 (λq A=>s q (by simp[A])) h
def agl{c n m:Nat}{b:Bool}:∀{l:Wk},(∀p∈l,aJ.val p.1=some (.b p.2))->NP c n m l=some b->∃d x y,xX d=c/\aJ.val n=some x/\aJ.val m=some y/\jd d x y=some (.b b)
 |[],_,h=>by simp[NP]at h
 |p::l,e,h=>by
  have f:=λh=>agl (c:=c) (n:=n) (m:=m) (b:=b) (l:=l) (λq i=>e q (by simp[i])) h;simp only[NP]at h;split at h
  ·next d j k o=>
   cases a:Nat.beq n j&&Nat.beq m k&&Nat.beq (xX d) c with
   |false=>rw[a]at h;exact f h
   |true=>
    rw[a]at h;simp only[cond_true,bF]at h;rw[aO,aO]at a;have r:=bV a.1.1;have s:=bV a.1.2;have t:=bV a.2;subst r;subst s;obtain⟨g,u,g2⟩:=aJ.uo _ _ o aA;have g3:=e p aA;rw[u,h]at g3;cases g3;simp only[Nd.den]at g2;split at g2
    ·next x y v z=>exact⟨d,x,y,t,v,z,g2⟩
    ·cases g2
  ·exact f h
def aps{f c:BinOp}{x y g:GV}{r:Bool}(h:Hw f=some c)(h1:jd c x y=some (.b r))(d:jd f x y=some g):g=.b (!r):=by
 cases x with
 |i k a=>
  cases y with
  |i j b=>
   by_cases e:k=j
   ·subst e;unfold Hw at h;split at h<;>cases h<;>simp only[jd,dw,if_true,bF,GV.b.injEq]at h1 d<;>rw[<-h1,<-d]<;>congr 1<;>rw[zx]<;>simp<;>omega
   ·unfold Hw at h;split at h<;>cases h<;>simp only[jd,aj e]at h1<;>cases h1
  |_=>unfold Hw at h;split at h<;>cases h<;>simp[jd]at h1
 |s a=>
  cases y with
  |s b=>unfold Hw at h;split at h<;>cases h<;>simp only[jd,zk,bF,GV.b.injEq]at h1 d<;>rw[<-h1,<-d]<;>simp
  |_=>unfold Hw at h;split at h<;>cases h<;>simp[jd]at h1
 |_=>unfold Hw at h;split at h<;>cases h<;>simp[jd]at h1
def ads{a:BinOp}{n m:Nat}{b:Bool}{g:GV}(h:Tq a n m=some b)(c:(Nd.bin a n m).den aJ.I aJ.val=some g):g=.b b:=by
 unfold Tq at h;split at h
 ·next d f=>
  obtain⟨r,i,rfl⟩:=bJ.1 h;obtain⟨j,x,y,e,k,l,o⟩:=agl (λp q=>aJ.Dy p.1 p.2 q) i;have:=akc.1 e;subst this;simp only[Nd.den,k,l]at c;exact aps f o c
 ·cases h
def aBf{x:Nd}{b:Bool}{g:GV}(h:adt x=some b)(c:x.den aJ.I aJ.val=some g):g=.b b:=by
 unfold adt at h;split at h
 ·next n m=>
  cases d:IC n m iI.dec with
  |false=>rw[d]at h;simp only[cond_false]at h;exact ads h c
  |true=>
   rw[d]at h;cases h;rcases ab2 (λp j=>aJ.Dy p.1 p.2 j) d with⟨k,a,b,e,f,i⟩|⟨a,b,e,f,i⟩
   ·simp only[Nd.den,e,f,jd,dw,if_true,bF]at c;rw[<-c];simp[Ne.symm i]
   ·simp only[Nd.den,e,f,jd,zk,bF]at c;rw[<-c];simp[Ne.symm i]
 ·next n m=>
  cases d:IC n m iI.dec with
  |false=>rw[d]at h;simp only[cond_false]at h;exact ads h c
  |true=>
   rw[d]at h;cases h;rcases ab2 (λp j=>aJ.Dy p.1 p.2 j) d with⟨k,a,b,e,f,i⟩|⟨a,b,e,f,i⟩
   ·simp only[Nd.den,e,f,jd,dw,if_true,bF]at c;rw[<-c];simp[Ne.symm i]
   ·simp only[Nd.den,e,f,jd,zk,bF]at c;rw[<-c];simp[Ne.symm i]
 ·exact ads h c
 ·cases h
def oU{x:Nd}{r:AV}(h:lS x=some r):∃n g,aJ.val n=some g/\x.den aJ.I aJ.val=some g/\∀v,g.scalar=true->GR F.ro g v->VR F r v:=by
 unfold lS at h;split at h
 ·next n f=>
  obtain⟨g,c,e⟩:=iG f;refine⟨n,g,c,e,λv i a=>?_⟩;split at h
  ·next b d=>
   cases h;have:=aJ.Dy n b (QS d);rw[c]at this;cases this;simp only[GR]at a;simp only[VR];exact a
  ·split at h
   ·next b d=>
    cases h;have:=aBf d e;subst this;simp only[GR]at a;simp only[VR];exact a
   ·cases h;simp only[VR];exact⟨g,c,i,a⟩
 ·cases h
def JR{a:Q4}{r:AV}(h:dB a=some r):∃v,a=some v/\∀(F:Env)(x:Value),VR F v x->VR F r x:=by
 unfold dB at h;split at h
 ·next n=>
  split at h
  ·next b f=>
   cases h;refine⟨_,rfl,λF x c=>?_⟩;have i:=aJ.Dy n b (QS f);simp only[VR]at c;obtain⟨g,d,_,e⟩:=c;rw[i]at d;cases d;simp only[GR]at e;subst e;simp only[VR]
  ·cases h
 ·exact⟨r,h,λ_ _ h=>h⟩
def nV{a:AV}{n:Nat}{v:Value}(h:jD a=some n)(e:VR F a v):∃g,aJ.val n=some g/\g.scalar=true/\GR F.ro g v:=by
 cases a<;>simp only[jD,reduceCtorEq,bF]at h
 case nd m=>subst h;simpa only[VR]using e
 case i k m=>obtain⟨g,d,c⟩:=iG h;simp only[Nd.den,bF]at c;subst c;exact⟨_,d,rfl,by simpa only[VR,GR]using e⟩
 case b x=>obtain⟨g,d,c⟩:=iG h;simp only[Nd.den,bF]at c;subst c;exact⟨_,d,rfl,by simpa only[VR,GR]using e⟩
 case s x=>obtain⟨g,d,c⟩:=iG h;simp only[Nd.den,bF]at c;subst c;exact⟨_,d,rfl,by simpa only[VR,GR]using e⟩
 case iq=>obtain⟨g,d,c⟩:=iG h;simp only[Nd.den,valsOf,iJ,bF]at c;subst c;exact⟨_,d,rfl,by simp only[VR]at e;simp only[GR];exact .inl ⟨trivial,_,e⟩⟩
def XB:∀{l:Q3}{c:Q2}{vs:Q6},nodesOf l=some c->aG F l vs->∃gs,valsOf aJ.val c=some gs/\gs.all GV.scalar=true/\aU F.ro gs vs
 |[],c,vs,h,b=>by simp only[nodesOf,bF]at h;subst h;simp only[aG]at b;subst b;exact⟨[],rfl,rfl,by simp[aU]⟩
 |a::l,c,vs,h,b=>by
  simp only[nodesOf]at h;split at h
  ·next n r d e=>
   cases h;simp only[aG]at b;obtain⟨x,xs,rfl,h1,f⟩:=b;obtain⟨g,i,g2,g3⟩:=nV d h1;obtain⟨gs,j,k,m⟩:=XB e f;exact⟨g::gs,by simp only[valsOf,i,j],by simp[g2,k],by simp only[aU];exact⟨x,xs,rfl,g3,m⟩⟩
  ·cases h
def Np{a:AV}{n:Nat}{v:Value}(h:GX a=some n)(d:VR F a v):∃l gs,a=.agg l/\gs.length=l.length/\aJ.val n=some (.g gs)/\gs.all GV.scalar=true/\GR F.ro (.g gs) v:=by
 unfold GX at h;split at h
 ·next l=>
  split at h
  ·next k c=>
   simp only[VR]at d;obtain⟨f,rfl,b⟩:=d;obtain⟨gs,i,g2,g3⟩:=XB c b;obtain⟨g,j,e⟩:=iG h;simp only[Nd.den,i,g2,if_true,bF]at e;subst e;exact⟨l,gs,rfl,by rw[g3.length,b.length],j,g2,by simp only[GR];exact⟨f,rfl,g3⟩⟩
  ·cases h
 ·cases h
def aBG{c:BinOp}{t:TypeId}{x y:Operand}{k d:IntKind}{a b:Int}{w:World}:(eqGuard c t x y (.int k a) (.int d b)).run P w=.ok () w:=by unfold eqGuard;cases c<;>rfl
def aBH{c:BinOp}{t:TypeId}{x y:Operand}{a b:ByteArray}{w:World}:(eqGuard c t x y (.string a) (.string b)).run P w=.ok () w:=by unfold eqGuard;cases c<;>rfl
def awy{c:BinOp}{t:TypeId}{k:IntKind}{a b:Int}{g:GV}(h1:c≠.shl)(d:c≠.shr)(h:dw c k a b=some g):g.scalar=true/\∃z,(binOp c t (.int k a) (.int k b)).run P w=.ok z w/\GR F.ro g z:=by
 cases c<;>simp only[dw,reduceCtorEq]at h
 all_goals first|(exact absurd rfl h1)|(exact absurd rfl d)|(cases h;done)|skip
 all_goals first
  |(cases h;refine⟨rfl,?_⟩;simp only[binOp,ne_eq,not_true_eq_false,if_false,Op.intArith,Op.intCmp,Op.intBits];exact⟨_,rfl,by simp only[GR]⟩)
  |(split at h;cases h;cases h;next e=>refine⟨rfl,?_⟩;simp only[binOp,ne_eq,not_true_eq_false,if_false,Op.intDiv,e];exact⟨_,rfl,by simp only[GR]⟩)
def al2{c:BinOp}{t:TypeId}{k e:IntKind}{a b:Int}{g:GV}(f:c=.shl\/c=.shr)(h:kT c k a b=some g):g.scalar=true/\∃z,(binOp c t (.int k a) (.int e b)).run P w=.ok z w/\GR F.ro g z:=by
 unfold kT at h;split at h
 ·cases h
 ·next d=>
  rcases f with rfl|rfl
  ·cases h;refine⟨rfl,?_⟩;simp only[binOp,Op.shift,aj d];exact⟨_,rfl,by simp only[GR]⟩
  ·cases h;refine⟨rfl,?_⟩;simp only[binOp,Op.shift,aj d];exact⟨_,rfl,by simp only[GR]⟩
def aEu{c:BinOp}{t:TypeId}{a b:Q0}{g:GV}(h:zk c a b=some g):g.scalar=true/\∃z,(binOp c t (.string ⟨⟨a⟩⟩) (.string ⟨⟨b⟩⟩)).run P w=.ok z w/\GR F.ro g z:=by
 cases c<;>simp only[zk,reduceCtorEq]at h
 all_goals first|(cases h;done)|skip
 all_goals first|(cases h;refine⟨rfl,?_⟩;simp only[binOp,Op.stringOp,toList_mk];exact⟨_,rfl,by simp only[GR]⟩)|skip
 split at h
 ·next d=>
  cases h;have:¬(((⟨⟨a⟩⟩:ByteArray).size+(⟨⟨b⟩⟩:ByteArray).size:Nat):Int)>IntKind.i64.max:=by rw[strSize,strSize];omega
  refine⟨rfl,?_⟩;simp only[binOp,Op.stringOp,aj this,afs];exact⟨_,rfl,by simp only[GR]⟩
 ·cases h
def aof{d:BinOp}{t:TypeId}{x y:Operand}{j g2 g:GV}{u e:Value}(h:jd d j g2=some g)(h1:GR F.ro j u)(c:GR F.ro g2 e):
 g.scalar=true/\∃z,(do eqGuard d t x y u e;binOp d t u e:Sem Value).run P w=.ok z w/\GR F.ro g z:=by
 unfold jd at h;split at h
 ·next k a m b=>
  simp only[GR]at h1 c;subst h1;subst c;simp only[aZ,aBG,aY];split at h
  ·exact al2 (.inl rfl) h
  ·exact al2 (.inr rfl) h
  ·next f i=>
   split at h
   ·next l=>subst l;exact awy f i h
   ·cases h
 ·next a b=>
  simp only[GR]at h1 c;subst h1;subst c;simp only[aZ,aBH,aY];exact aEu h
 ·cases h
def ahe{t:TypeId}(c:P.underlying t=some .bool)(a b:Bool):(Op.equal t (.bool a) (.bool b)).run P w=.ok (a==b) w:=by
 have H:∀n,(Op.equalIn (n+1) t (.bool a) (.bool b)).run P w=.ok (a==b) w:=λn=>by simp only[Op.equalIn,aZ,bG c,aY,bQ]
 exact H 9999
def aod{c:BinOp}{t:TypeId}{x y:Operand}{e g2 g:GV}{u d:Value}(f:P.underlying t=some .bool)(h:Va c e g2=some g)(h1:GR F.ro e u)(i:GR F.ro g2 d):
 g.scalar=true/\∃z,(do eqGuard c t x y u d;binOp c t u d:Sem Value).run P w=.ok z w/\GR F.ro g z:=by
 unfold Va at h;split at h
 ·next a b=>
  simp only[GR]at h1 i;subst h1;subst i;split at h
  ·cases h;exact⟨rfl,_,uO (ahe f a b) rfl rfl,by simp only[GR]⟩
  ·cases h;exact⟨rfl,_,uP (ahe f a b) rfl rfl,by simp only[GR]⟩
  ·cases h
 ·cases h
def ahf{w:World}(d:Nat):∀(fs:List Field)(k:Nat)(E:Q2)(xs p:Q6)(gs m:Q1)(r:Bool),OZ P fs k=some E->aU F.ro gs (xs.drop k)->aU F.ro m (p.drop k)->pV E gs m=some r->
 (Op.eqFields (d+1) ⟨xs⟩ ⟨p⟩ fs).run P w=.ok r w
 |[],k,E,xs,p,gs,m,r,n,_,_,c=>by
  simp only[OZ,bF]at n;subst n;cases gs with
  |cons g gs=>simp[pV]at c
  |nil=>
   cases m with
   |cons g gs=>simp[pV]at c
   |nil=>simp only[pV,bF]at c;subst c;simp[Op.eqFields]
 |f::fs,k,E,xs,p,gs,m,r,n,W,X,c=>by
  simp only[OZ]at n;split at n
  ·next Y=>
   rw[aO,yx]at Y;obtain⟨Z,ho⟩:=Y;have H:=bV ho;split at n
   ·next a t o I=>
    cases n;cases gs with
    |nil=>simp[pV]at c
    |cons g gs=>
    cases m with
    |nil=>simp[pV]at c
    |cons L m=>
    simp only[aU]at W X;obtain⟨u,us,v,s,M⟩:=W;obtain⟨u',N,x,j,O⟩:=X;have Q:xs[k]? =some u:=by rw[<-List.head?_drop,v];rfl
    have R:p[k]? =some u':=by rw[<-List.head?_drop,x];rfl
    have S:us=xs.drop (k+1):=by have:=uS (List.drop 1) v;simpa[tK]using this.symm
    have T:N=p.drop (k+1):=by have:=uS (List.drop 1) x;simpa[tK]using this.symm
    have y:qp P f.type=some false:=by unfold ac2 at o;unfold qp;split at o<;>first|(next h=>rw[h])|(cases o)
    have l:∀(G:Q6) z,G[k]? =some z->(part f.type ⟨G⟩ f.offset).run P w=.ok z w:=by
     intro G z hz;unfold part;simp only[aZ,LJ y,aY,iZ,if_false];have:(⟨G⟩:QR)[f.offset]? =some z:=by rw[H];simpa using hz
     simp only[this,bQ]
    have U:(f.name ≠ "_"):=by intro e;rw[e]at Z;simp at Z
    have fin:∀b q,(Op.equalIn (d+1) f.type u u').run P w=.ok b w->pV t gs m=some q->(Op.eqFields (d+1) ⟨xs⟩ ⟨p⟩ (f::fs)).run P w=.ok (b&&q) w:=by
     intro b q hb i;have A:=ahf (w:=w) d fs (k+1) t xs p gs m q I (by rw[<-S];exact M) (by rw[<-T];exact O) i;simp only[Op.eqFields,au U,aZ,l _ _ Q,l _ _ R,aY,hb];cases b with
     |true=>simpa using A
     |false=>simp
    unfold ac2 at o;split at o
    ·next kk D=>
     cases o;cases g<;>cases L<;>simp only[pV,reduceCtorEq]at c
     split at c
     ·next V=>
      subst V;obtain⟨q,i,rfl⟩:=bJ.1 c;simp only[GR]at s j;subst s;subst j;exact fin _ _ (run_equalIn_int w d _ _ _ _ _ D) i
     ·cases c
    ·next D=>
     cases o;cases g<;>cases L<;>simp only[pV,reduceCtorEq]at c
     obtain⟨q,i,rfl⟩:=bJ.1 c;simp only[GR]at s j;subst s;subst j;refine fin _ _ ?_ i;rw[run_equalIn_string w d _ _ _ D,toList_mk,toList_mk]
    ·next D=>
     cases o;cases g<;>cases L<;>simp only[pV,reduceCtorEq]at c
     obtain⟨q,i,rfl⟩:=bJ.1 c;simp only[GR]at s j;subst s;subst j;exact fin _ _ (run_equalIn_bool' w d _ _ _ D) i
    ·cases o
   ·cases n
  ·cases n
def aoe{k:BinOp}{t:TypeId}{x y:Operand}{fs:Array Field}{i:Q2}{o g2 g:GV}{u l:Value}(p:P.underlying t=some (.struct fs))(m:P.stoodInHeld t=false)(c:P.eqGuardType P.depth t=false)(v:OZ P fs.toList 0=some i)
 (h:Nv k i o g2=some g) (h1:GR F.ro o u) (j:GR F.ro g2 l):
 g.scalar=true/\∃z,(do eqGuard k t x y u l;binOp k t u l:Sem Value).run P w=.ok z w/\GR F.ro g z:=by
 unfold Nv at h;split at h
 ·next a b=>
  simp only[GR]at h1 j;obtain⟨q,rfl,h1⟩:=h1;obtain⟨s,rfl,j⟩:=j;have d:P.fieldsOf t=fs:=by unfold Program.fieldsOf;rw[p]
  have n:P.underlying t=some (.struct (P.fieldsOf t)):=by rw[d];exact p
  have e:∀r,pV i a b=some r->(Op.equalIn 10000 t (.agg ⟨q⟩) (.agg ⟨s⟩)).run P w=.ok r w:=by intro r f;rw[run_equalIn_agg w 9999 t _ _ n m,d];exact ahf (F:=F) 9998 fs.toList 0 i q s a b r v (by simpa using h1) (by simpa using j) f
  split at h
  ·obtain⟨r,f,rfl⟩:=bJ.1 h;refine⟨rfl,.bool r,?_,by simp only[GR]⟩;simp only[aZ,run_eqGuard_agg w .eql t x y _ _ c,aY,run_eql_struct,e r f]
  ·obtain⟨r,f,rfl⟩:=bJ.1 h;refine⟨rfl,.bool (!r),?_,by simp only[GR]⟩;simp only[aZ,run_eqGuard_agg w .neq t x y _ _ c,aY,run_neq_struct,e r f]
  ·cases h
 ·cases h
def aEB{p:BinOp}{t:TypeId}{x y:Operand}{a b v:AV}{u r:Value}(c:YB P p t a b=some v)(f:VR F a u)(j:VR F b r):
 ∃z,(do eqGuard p t x y u r;binOp p t u r:Sem Value).run P w=.ok z w/\VR F v z:=by
 unfold YB at c
 have D:∀{m n:Nat}{R:Nd},lS R=some v->(∀g,R.den aJ.I aJ.val=some g->g.scalar=true/\∃z,(do eqGuard p t x y u r;binOp p t u r:Sem Value).run P w=.ok z w/\GR F.ro g z)->
  ∃z,(do eqGuard p t x y u r;binOp p t u r:Sem Value).run P w=.ok z w/\VR F v z:=by
  intro m n R E Y;obtain⟨_,g,_,Z,h3⟩:=oU (F:=F) E;obtain⟨h4,z,h5,h6⟩:=Y g Z;exact⟨z,h5,h3 z h4 h6⟩
 have G:(match jD a,jD b with|some x,some y=>lS (.bin p x y)|_,_=>none)=some v->∃z,(do eqGuard p t x y u r;binOp p t u r:Sem Value).run P w=.ok z w/\VR F v z:=by
  intro c;split at c
  ·next m n E H=>
   obtain⟨U,I,V,L⟩:=nV E f;obtain⟨g2,M,W,N⟩:=nV H j;refine D (m:=m) (n:=n) c λg s=>?_;simp only[Nd.den,I,M]at s;exact aof s L N
  ·cases c
 split at c
 ·exact G c
 ·exact G c
 ·next d=>
  split at c
  ·next m n E H=>
   obtain⟨U,I,V,L⟩:=nV E f;obtain⟨g2,M,W,N⟩:=nV H j;refine D (m:=m) (n:=n) c λg s=>?_;simp only[Nd.den,I,M]at s;exact aod d s L N
  ·cases c
 ·next fs d=>
  split at c
  ·next S=>
   rw[aO,yx,yx]at S;split at c
   ·next ks m n T E H=>
    obtain⟨l1,U,_,_,I,V,L⟩:=Np E f;obtain⟨l2,g2,_,_,M,W,N⟩:=Np H j;refine D (m:=m) (n:=n) c λg s=>?_;simp only[Nd.den,I,M]at s;exact aoe d S.1 S.2 T s L N
   ·cases c
  ·cases c
 ·next e d=>
  have O:∀{m l:Nat}{u:Value},VR F (.rx m l) u->∃o,u=.pointer (some o):=by intro m l u h;simp only[VR]at h;obtain⟨g,bl,base,cs,X,fr,y,_,_,_,rfl,_⟩:=h;exact⟨_,rfl⟩
  have Q:∀{id m l:Nat}{u:Value},VR F (.pv id m l) u->∃o,u=.pointer (some o):=by intro id m l u h;simp only[VR]at h;obtain⟨q,k,i,_,_,rfl⟩:=h;exact⟨_,rfl⟩
  have A:∀{u:Value},VR F .kG u->u=.pointer none:=by intro u h;simpa only[VR]using h
  split at c<;>cases c
  ·obtain⟨o,rfl⟩:=O f;have:=A j;subst this;exact⟨_,uO (H6 d _) rfl rfl,by simp only[VR]⟩
  ·obtain⟨o,rfl⟩:=O j;have:=A f;subst this;exact⟨_,uO (HY d _) rfl rfl,by simp only[VR]⟩
  ·obtain⟨o,rfl⟩:=O f;have:=A j;subst this;exact⟨_,uP (H6 d _) rfl rfl,by simp only[VR];rfl⟩
  ·obtain⟨o,rfl⟩:=O j;have:=A f;subst this;exact⟨_,uP (HY d _) rfl rfl,by simp only[VR];rfl⟩
  ·obtain⟨o,rfl⟩:=Q f;have:=A j;subst this;exact⟨_,uO (H6 d _) rfl rfl,by simp only[VR]⟩
  ·obtain⟨o,rfl⟩:=Q j;have:=A f;subst this;exact⟨_,uO (HY d _) rfl rfl,by simp only[VR]⟩
  ·obtain⟨o,rfl⟩:=Q f;have:=A j;subst this;exact⟨_,uP (H6 d _) rfl rfl,by simp only[VR];rfl⟩
  ·obtain⟨o,rfl⟩:=Q j;have:=A f;subst this;exact⟨_,uP (HY d _) rfl rfl,by simp only[VR];rfl⟩
 ·cases c
def aFf{b:UnOp}{g a:GV}{u:Value}(h:YV b g=some a)(h1:GR F.ro g u):a.scalar=true/\∃z,(Op.unary b u).run P w=.ok z w/\GR F.ro a z:=by
 unfold YV at h;split at h
 ·simp only[GR]at h1;subst h1;split at h
  ·cases h;exact⟨rfl,_,rfl,by simp only[GR]⟩
  ·cases h
 ·simp only[GR]at h1;subst h1;split at h
  ·cases h;exact⟨rfl,_,rfl,by simp only[GR]⟩
  ·simp only[dw,bF]at h;subst h;exact⟨rfl,_,rfl,by simp only[GR]⟩
  ·cases h
 ·cases h
def aEN{c:UnOp}{a v:AV}{u:Value}(b:PO c a=some v)(d:VR F a u):∃z,(Op.unary c u).run P w=.ok z w/\VR F v z:=by
 unfold PO at b;split at b
 ·next n=>
  obtain⟨_,g,_,e,f⟩:=oU (F:=F) b;simp only[VR]at d;obtain⟨g0,h,m,i⟩:=d;simp only[Nd.den,h]at e;obtain⟨j,z,k,l⟩:=aFf (P:=P) (w:=w) e i;exact⟨z,k,f z j l⟩
 ·cases b
def SR.swap(h:SR P F J w){id:Nat}{o o':bP}(n:J.get id=some o)(p:o'.own=o.own)(r:Live P F w id o'):SR P F (J.put id o') w:=by
 have b:∀k u,(J.put id o').get k=some u->∃c,J.get k=some c/\u.own=c.own:=by
  intro k u a;rw[aC.get_put]at a;split at a
  ·next e=>cases a;subst e;exact⟨o,n,p⟩
  ·exact⟨u,a,rfl⟩
 refine⟨h.oO,h.dom,λk u a=>?_,h.kZ,λk u m c q s d f g i t x=>?_,h.jF,λk u q d f g=>?_,h.tabs⟩
 ·rw[aC.get_put]at a;split at a
  ·next e=>cases a;subst e;exact r
  ·exact h.live k u a
 ·obtain⟨v,j,l⟩:=b k u d;obtain⟨y,z,A⟩:=b m c g;exact h.sep k v m y q s j (l▸f) z i t x
 ·obtain⟨v,j,l⟩:=b k u d;exact h.ng k v q j (l▸f) g
def St.left{F':Env}{τ:aC}{w':World}(h:St P F τ w F' J' w')(a:τ.lock=J.lock)(z:τ.next=J.next)(f:∀k u,τ.get k=some u->u.own=true->∃A,J.get k=some A/\A.own=true):St P F J w F' J' w':=by
 refine⟨h.ext,h.rel,h.size,λD g i=>h.keep D g λk u q j l m n=>?_,λk u q j l m n=>?_,h.os,h.tape,h.output,h.lock.trans a,z▸h.next,z▸h.new,λb g=>?_⟩
 ·obtain⟨v,c,d⟩:=f k u j l;exact i k v q c d (a▸m) n
 ·rcases h.own k u q j l (a▸m) n with h1|⟨e,o,p,c,d,r,s,t⟩
  ·exact .inl h1
  ·obtain⟨v,x,y⟩:=f e o c d;exact .inr ⟨e,v,p,x,y,a▸r,s,t⟩
 ·rcases h.tC b g with h1|h1|⟨e,o,p,c,d,r,s,t⟩
  ·exact .inl h1
  ·exact .inr (.inl h1)
  ·obtain⟨v,x,y⟩:=f e o c d;exact .inr (.inr ⟨e,v,p,x,y,a▸r,s,t⟩)
def St.right{F':Env}{τ:aC}{w':World}(h:St P F J w F' J' w')(rel:SR P F' τ w')(c:τ.lock=J'.lock)(a:τ.next=J'.next)(d:∀k u,τ.get k=some u->u.own=true->∃b,J'.get k=some b/\b.own=true):St P F J w F' τ w':=by refine⟨h.ext,rel,h.size,h.keep,λk u q e f g i=>?_,h.os,h.tape,h.output,c.trans h.lock,by rw[a];exact h.next,by rw[a];exact h.new,h.tC⟩;obtain⟨v,j,l⟩:=d k u e f;exact h.own k v q j l g i
def bW(xs:Q1):Q3:=eY (xs.flatMap GV.cells)
def Q5{xs:Q1}{sz:Nat}(h:∀x∈xs,x.cells.length=sz):(xs.flatMap GV.cells).length=xs.length*sz:=by
 induction xs with
 |nil=>simp
 |cons x xs a=>rw[kV,eH,h x aA,a (λy b=>h y (by simp[b])),iD,uJ];omega
def auo{xs:Q1}{sz:Nat}(h:∀x∈xs,x.cells.length=sz)(i:Nat):(xs.flatMap GV.cells).drop (i*sz)=(xs.drop i).flatMap GV.cells:=by
 induction xs generalizing i with
 |nil=>simp
 |cons x xs b=>
  cases i with
  |zero=>simp
  |succ i=>have a:=h x aA;rw[kV,aeL,Je (by rw[a,uJ];omega),a,aX,Zg,<-b (λy c=>h y (by simp[c]))];congr 1;rw[uJ];omega
def aun{xs:Q1}{sz i:Nat}{x:GV}(h:∀x∈xs,x.cells.length=sz)(hi:xs[i]? =some x):((xs.flatMap GV.cells).drop (i*sz)).take sz=x.cells:=by
 rw[auo h];have:xs.drop i=x::xs.drop (i+1):=by obtain⟨a,rfl⟩:=gu.1 hi;exact iR a
 have b:=h x (tN hi);rw[this,kV,Uw ah,mg ah]
def Wx(l:Q1)(n:Nat):eY (l.take n)=(eY l).take n:=by rw[yP,yP,aeT]
def Wv(l:Q1)(n:Nat):eY (l.drop n)=(eY l).drop n:=by rw[yP,yP,List.map_drop]
def J7(l m:Q1):eY (l++m)=eY l++eY m:=by rw[yP,yP,yP,oK]
def ungroup:∀(xs:Q1)(vs:Q6),aG F (bW xs) vs->(∀x∈xs,x.cells.all GV.scalar=true)->∃a,aU F.ro xs a/\eP a=vs/\∀(k:Nat) x y,xs[k]? =some x->a[k]? =some y->y.cells.size=x.cells.length
 |[],vs,h,_=>by simp only[bW,List.flatMap_nil,eY,aG]at h;subst h;exact⟨[],by simp[aU],rfl,aA⟩
 |x::xs,vs,h,f=>by
  have m:aG F (eY x.cells++bW xs) vs:=by rw[bW,kV,J7]at h;exact h
  have c:=m.take x.cells.length;have n:=m.drop x.cells.length;rw[Uw (by rw[oG];omega),mg (by rw[oG];omega)]at c;rw[Zf (by rw[oG];omega),Je (by rw[oG];omega),aX]at n;obtain⟨a,p,g2,g3⟩:=ungroup xs _ n (λy i=>f y (by simp[i]));have j:=c.length;rw[oG]at j;have fin:∀y,GR F.ro x y->y.cells.toList=vs.take x.cells.length->∃a,aU F.ro (x::xs) a/\eP a=vs/\∀(k:Nat) e y,(x::xs)[k]? =some e->a[k]? =some y->y.cells.size=e.cells.length:=by
   intro y i d;refine⟨y::a,by simp only[aU];exact⟨y,a,rfl,i,p⟩,?_,?_⟩
   ·have:eP (y::a)=y.cells.toList++eP a:=by simp[eP]
    rw[this,d,g2,Ji]
   ·intro k e q l b;cases k with
    |zero=>simp at l b;subst l;subst b;rw[j,<-d];simp
    |succ k=>exact g3 k e q (by simpa using l) (by simpa using b)
  cases x with
  |g r=>exact fin (.agg ⟨vs.take r.length⟩) (by simp only[GR];exact⟨_,rfl,(qX _ _).2 c⟩) rfl
  |_=>simp only[GV.cells,eY,aG,iD,lK]at c j;obtain⟨u,t,s,o,rfl⟩:=c;refine fin u ((nH _ _).2 o) ?_;rw[aj9 (GR.sW ((nH _ _).2 o) rfl)];exact s.symm
def aU.scalars{ro:Qf}:∀{gs:Q1}{vs:Q6},aU ro gs vs->(∀v∈vs,sW v=true)->gs.all GV.scalar=true
 |[],_,_,_=>rfl
 |g::gs,vs,h,a=>by
  simp only[aU]at h;obtain⟨x,xs,rfl,h1,b⟩:=h;simp only[uG,aO];refine⟨?_,aU.scalars b λv c=>a v (by simp[c])⟩;cases g with
  |g d=>simp only[GR]at h1;obtain⟨vs,rfl,_⟩:=h1;have:=a (.agg ⟨vs⟩) aA;simp[sW]at this
  |_=>rfl
def OR.OJ{q:Place}{m et:Nat}{f:Bool}(h:OR P F q w (.vec m et f)):∃xs,aJ.val m=some (.l xs)/\(∀x∈xs,x.cells.length=q.es)/\et≠0/\0<q.es/\sizeT P et=some q.es/\xs.length*q.es<=q.sz/\(∀x∈xs,x.cells.all GV.scalar=true)/\OR P F q w (.cells (bW xs) et true true):=by
 obtain⟨xs,l,b,n,o,p,s,i,t,u,j,r,z,_⟩:=h;obtain⟨A,D,E⟩:=r.room rfl;have c:∀x∈xs,x.cells.length=q.es:=by intro x G;obtain⟨k,d⟩:=P9 G;obtain⟨y,H,e⟩:=i.at d;rw[e.af8];exact t y (tN H)
 have g:aG F (bW xs) (eP o):=by rw[bW,<-aa0];exact ahy ((qX _ _).1 i)
 refine⟨xs,p,c,A,D,E,j,z,l,b,n,s,{fits:=r.fits,le:=by rw[bW,oG,Q5 c];exact j,shut:=aA,cell:=λk a d=>?_,free:=r.free,whole:=r.whole,room:=r.room}⟩;obtain⟨v,e,I⟩:=g.at d;exact⟨v,u k v e,I⟩
def OR.Y0{q:Place}{m et:Nat}(h:OR P F q w (.vec m et true)):q.es<=q.sz:=by obtain⟨c,d,a,e,f,g,i,j,k,l,n,r,o,b⟩:=h;exact b rfl
def OR.Ae{q:Place}{m et:Nat}{f:Bool}{xs:Q1}(v:f=true->q.es<=q.sz)(j:aJ.val m=some (.l xs))(d:∀x∈xs,x.cells.length=q.es)(e:∀x∈xs,x.cells.all GV.scalar=true){c:Q3}(h:OR P F q w (.cells c et true true))(z:∀vs,aG F c vs->aG F (bW xs) vs):OR P F q w (.vec m et f):=by
 obtain⟨o,g,A,D,r⟩:=h;have p:=r.fits;have E:=r.le;have l:aG F c ((o.toList.drop q.ba).take c.length):=by refine aG.of (by simp;omega) λk a b=>?_;obtain⟨x,G,j⟩:=r.cell k a b;have n:=(gu.1 b).1;exact⟨x,by rw[oh,au n,uI];simpa using G,j⟩
 have s:=z _ l;obtain⟨H,t,g2,g3⟩:=ungroup xs _ s e;have u:xs.length*q.es=c.length:=by have:=s.length;rw[bW,oG,Q5 d]at this;rw[this];simp;omega
 refine⟨xs,o,g,A,H,j,D,t,λy I=>?_,λk x b=>?_,ah,{fits:=r.fits,le:=aA,shut:=aA,cell:=aA,free:=r.free,whole:=r.whole,room:=r.room},e,v⟩
 ·obtain⟨k,b⟩:=P9 I;have i:k<xs.length:=by rw[t.length];exact(gu.1 b).1
  rw[g3 k _ y (bZ i) b];exact d _ (iT i)
 ·rw[g2,oh]at b;split at b
  ·rw[uI]at b;simpa using b
  ·cases b
def mJ(J:aC)(id:Nat)(xs:Q1)(et:TypeId):aC:=J.put id (.cells (bW xs) et true true)
def PU(h:SR P F J w){id m et:Nat}{f:Bool}{q:Place}(a:J.get id=some (.vec m et f))(b:F id=some q):∃xs,aJ.val m=some (.l xs)/\(∀x∈xs,x.cells.length=q.es)/\et≠0/\0<q.es/\sizeT P et=some q.es/\xs.length*q.es<=q.sz/\(∀x∈xs,x.cells.all GV.scalar=true)/\SR P F (mJ J id xs et) w:=by obtain⟨xs,c,d,e,g,i,j,k,l⟩:=(h.at a b).OJ;exact⟨xs,c,d,e,g,i,j,k,h.swap a rfl (.inl ⟨q,b,l⟩)⟩
def Gq{id:Nat}{xs:Q1}{et:TypeId}:(mJ J id xs et).get id=some (.cells (bW xs) et true true):=by unfold mJ;rw[aC.get_put,au rfl]
def TW{F':Env}{w':World}{id m et:Nat}{f:Bool}{xs:Q1}(b:J.get id=some (.vec m et f))(h:St P F (mJ J id xs et) w F' J' w'):St P F J w F' J' w':=by
 refine h.left rfl rfl λk u a c=>?_;unfold mJ at a;rw[aC.get_put]at a;split at a
 ·next e=>subst e;exact⟨_,b,rfl⟩
 ·exact⟨u,a,c⟩
def aFl{F':Env}{w':World}{id m et:Nat}{f:Bool}{q:Place}{xs:Q1}(i:f=true->q.es<=q.sz)(j:J.get id=some (.vec m et f))(l:F id=some q)(n:aJ.val m=some (.l xs))(c:∀x∈xs,x.cells.length=q.es)(d:∀x∈xs,x.cells.all GV.scalar=true)(h:St P F J w F' (mJ J id xs et) w'):St P F J w F' J w':=by
 have a:=h.ext.pl _ _ l;have g:=OR.Ae i n c d (h.rel.at Gq a) (λ_ h=>h);refine h.right ((h.rel.swap (o':=.vec m et f) Gq rfl (.inl ⟨q,a,g⟩)).sub (λk o b=>?_) (dP _)) rfl rfl (λk o b p=>?_)
 ·unfold mJ;rw[aC.get_put,aC.get_put];split
  ·next e=>rw[e,j]at b;exact b
  ·exact b
 ·unfold mJ;rw[aC.get_put];split
  ·exact⟨_,rfl,rfl⟩
  ·exact⟨o,b,p⟩
def Vq{m:Nat}{g:GV}(j:aJ.val m=some g):∀(n off:Nat){l:Q3},JJ m off n=some l->∃r,takeN (eY g.cells) off n=some r/\∀vs,aG F r vs->aG F l vs
 |0,off,l,h=>by simp only[JJ,bF]at h;subst h;exact⟨[],by simp[takeN],λ_ h=>h⟩
 |n+1,off,l,h=>by
  simp only[JJ]at h;split at h
  ·next a r p q=>
   cases h;obtain⟨_,f,_,b,s⟩:=oU (F:=F) p;simp only[Nd.den,j]at b;split at b
   ·next c k=>
    split at b
    ·next t=>
     cases b;obtain⟨u,v,y⟩:=Vq j n (off+1) q;obtain⟨z,A,L⟩:=vg v;refine⟨mD f::u,?_,?_⟩
     ·have D:off<g.cells.length:=(gu.1 k).1;have E:(eY g.cells).drop off=mD f::(eY g.cells).drop (off+1):=by
       have d:(eY g.cells)[off]? =some (mD f):=by rw[Rf,k];rfl
       obtain⟨i,G⟩:=gu.1 d;rw[iR i,G]
      unfold takeN;simp only[E,BA,<-z,iD,A,if_true]
     ·intro vs e;simp only[aG]at e⊢;obtain⟨x,o,rfl,H,I⟩:=e;exact⟨x,o,rfl,s x t ((nH _ _).2 H),y o I⟩
    ·cases b
   ·cases b
  ·cases h
def adT{t:TypeId}{m off:Nat}{g:GV}{v:AV}(f:aJ.val m=some g)(h:TM P t m off=some v):∃r,(match qp P t with
 |some true=>match sizeT P t with
  |some n=>(takeN (eY g.cells) off n).map .agg
  |none=>none
 |some false=>(eY g.cells)[off]?
 |none=>none)=some r/\∀y,VR F r y->VR F v y:=by
 unfold TM at h;split at h
 ·next d=>
  split at h
  ·next n j=>
   obtain⟨l,k,rfl⟩:=bJ.1 h;obtain⟨r,o,a⟩:=Vq (F:=F) f n off k;rw[d,j];refine⟨.agg r,by simp[o],λy b=>?_⟩;simp only[VR]at b⊢;obtain⟨i,rfl,e⟩:=b;exact⟨i,rfl,a i e⟩
  ·cases h
 ·next d=>
  obtain⟨_,p,_,a,e⟩:=oU (F:=F) h;simp only[Nd.den,f]at a;split at a
  ·next c q=>
   split at a
   ·next s=>
    cases a;rw[d];exact⟨mD p,by simp only;rw[Rf,q];rfl,λy b=>e y s ((nH _ _).2 b)⟩
   ·cases a
  ·cases a
 ·cases h
def aEI(h:SR P F J w){t:TypeId}{a v:AV}{x:Value}(d:YG P t J a=some v)(E:VR F a x):∃y,(Instr.loadAt t x).run P w=.ok y w/\VR F v y:=by
 unfold YG at d;split at d
 ·next m b=>
  simp only[VR]at E;obtain⟨g,U,base,cs,s,fr,u,H,I,V,rfl,W⟩:=E;obtain⟨r,l,L⟩:=adT (F:=F) H d;have M:VR F (.rp (mD g) b) (.pointer (some ⟨U,base+b,none⟩)):=by simp only[VR];exact⟨U,base,cs,s,fr,u,I,(nH _ _).1 V,rfl,W⟩
  have N:yH P t J (.rp (mD g) b)=some r:=by simp only[yH,Og];exact l
  obtain⟨y,p,O⟩:=Ip h N M;exact⟨y,p,L y O⟩
 ·next id i b=>
  split at d
  ·next m et _ hg=>
   split at d
   ·next X Q=>
    split at d
    ·next e he=>
     simp only[VR]at E;obtain⟨q,k,j,Y,hj,rfl⟩:=E;obtain⟨G,H,I,V,W,p,_,_,hS⟩:=PU h hg Y;rw[Q]at p;cases p;obtain⟨g,g1,g2⟩:=iG he;simp only[Nd.den,H,hj]at g2;split at g2
     ·next aa=>
      split at g2
      ·next x R=>
       split at g2
       ·next z=>
        cases g2;obtain⟨r,l,L⟩:=adT (F:=F) g1 d;have A:=aun I R;have o:∀n f,takeN (eY g.cells) b n=some f->takeN (bW G) (j.toNat*q.es+b) n=some f:=by
         intro n f c;obtain⟨e1,e2,Z⟩:=vg c;rw[oG]at Z;have:((bW G).drop (j.toNat*q.es+b)).take n=f:=by rw[<-tK,bW,<-Wv,e1,<-A,Wx,MN,aeZ];congr 1;rw[z]at Z;omega
         unfold takeN;simp only[this,e2,if_true]
        have D:∀f,(eY g.cells)[b]? =some f->(bW G)[j.toNat*q.es+b]? =some f:=by
         intro f c;have S:b<q.es:=by have:=(gu.1 c).1;rw[oG,z]at this;exact this
         rw[<-A,Wx,oh,au S,Wv,uI]at c;exact c
        have N:yH P t (mJ J id G et) (.p id (j.toNat*q.es+b))=some r:=by
         simp only[yH,Gq];split at l
         ·next T=>
          rw[T];split at l
          ·next n hn=>
           rw[hn];obtain⟨f,c,rfl⟩:=bJ.1 l;simp only[o n f c,iJ]
          ·cases l
         ·next T=>rw[T];exact D r l
         ·cases l
        obtain⟨y,p,O⟩:=Ip hS N (x:=.pointer (some ⟨q.bl,q.ba+j.toNat*q.es+b,none⟩)) (by simp only[VR];exact⟨q,Y,by rw[kC]⟩);exact⟨y,p,L y O⟩
       ·cases g2
      ·cases g2
     ·cases g2
    ·cases d
   ·cases d
  ·cases d
 ·cases d
def aEE{t:TypeId}{a v:AV}{x:Value}{f:Nat}(h:YD P t a f=some v)(d:VR F a x):∃y,(Instr.fieldAt t x f).run P w=.ok y w/\VR F v y:=by
 unfold YD at h;split at h
 ·next e j=>
  split at h
  ·next l o=>
   split at h
   ·next n p=>
    split at h
    ·cases h
    ·next r=>
     split at h
     ·next m b=>
      cases h;simp only[VR]at d;obtain⟨g,s,base,z,c,A,u,D,E,G,rfl,H⟩:=d;refine⟨.pointer (some ⟨s,base+b+l.offset,none⟩),?_,?_⟩
      ·simp[Instr.fieldAt,bG j,o,Instr.sureAddr,fieldPlace,jO p,r,tX]
      ·simp only[VR];exact⟨g,s,base,z,c,A,u,D,E,G,by rw[kC],H⟩
     ·next id m b=>
      cases h;simp only[VR]at d;obtain⟨q,k,i,I,hi,rfl⟩:=d;refine⟨.pointer (some ⟨q.bl,q.ba+i.toNat*q.es+b+l.offset,none⟩),?_,?_⟩
      ·simp[Instr.fieldAt,bG j,o,Instr.sureAddr,fieldPlace,jO p,r,tX]
      ·simp only[VR];exact⟨q,k,i,I,hi,by rw[kC]⟩
     ·cases h
   ·cases h
  ·cases h
 ·cases h
def RU{i:Nat}{g:GV}{y:Value}(l:aJ.val i=some g)(e:GR F.ro g y):∀{c j:Nat}{k:AV},KE i c j=some k->∃(a:IntKind)(m:Int),k=.i .i64 m/\y=.int a m
 |0,j,k,h=>by cases h
 |c+1,j,k,h=>by
  unfold KE at h;have n:∀{r v},lS (.Cb i j)=some r->(∀x,VR F r x->VR F (.b v) x)->∃(a:IntKind)(m:Int),g=.i a m/\decide (m=(j:Int))=v:=by
   intro r v b d;obtain⟨_,z,A,f,q⟩:=oU (F:=F) b;simp only[Nd.den,l]at f;cases g with
   |i a m=>simp only[bF]at f;subst f;have:=d _ (q (.bool (decide (m=(j:Int)))) rfl (by simp only[GR]));simp only[VR]at this;cases this;exact⟨a,m,rfl,rfl⟩
   |_=>cases f
  have fin:∀{r},lS (.Cb i j)=some r->(∀x,VR F r x->VR F (.b true) x)->some (AV.i .i64 (j:Int))=some k->∃(a:IntKind)(m:Int),k=.i .i64 m/\y=.int a m:=by
   intro r b d s;obtain⟨a,m,rfl,o⟩:=n b d;cases s;have o:m=(j:Int):=by simpa using o
   subst o;simp only[GR]at e;exact⟨a,_,rfl,e⟩
  split at h
  ·next b=>exact fin b (λ_ h=>h) h
  ·next b=>exact RU l e h
  ·next m b=>
   split at h
   ·next p=>
    obtain⟨v,d,t⟩:=JR p;cases d;exact fin b (λx u=>t F x u) h
   ·next p=>exact RU l e h
   ·cases h
  ·cases h
def aEF(h:SR P F J w){t:TypeId}{a i v:AV}{x y:Value}(b:YF P J t a i=some v)(c:VR F a x)(hy:VR F i y):∃z,(Instr.indexAt t x y).run P w=.ok z w/\VR F v z:=by
 unfold YF at b;split at b
 ·next e H=>
  split at b
  ·next aa ni d I=>
   obtain⟨gi,p,i2,f⟩:=nV I hy;split at b
   ·next n=>
    obtain⟨m,L,rfl⟩:=bJ.1 b;obtain⟨g,M,g2⟩:=iG L;simp only[VR]at c;obtain⟨gl,N,l2,l3⟩:=c;simp only[Nd.den,N,p]at g2;split at g2
    ·next o k j O Q=>
     cases O;cases Q;simp only[GR]at f;subst f;split at g2
     ·next A=>
      split at g2
      ·next z hz=>
       split at g2
       ·next R=>
        cases g2;have S:Ar P t (.ro (eY o)) (.i k j)=some (.rp (mD g) 0):=by
         have:(eY o)[j.toNat]? =some (mD g):=by rw[Rf,hz];rfl
         simp only[Ar,H,yG,d,au A,this,Og,oG,R,if_true]
        obtain⟨T,D,E⟩:=RD (P:=P) (w:=w) S ((nH (.l o) x).1 l3) (by simp only[VR]:VR F (.i k j) (.int k j));refine⟨T,D,?_⟩;simp only[VR]at E⊢;obtain⟨bl,base,cs,r,fr,u,k1,k2,k3,k4⟩:=E;exact⟨g,bl,base,cs,r,fr,u,M,k1,(nH _ _).2 k2,k3,k4⟩
       ·cases g2
      ·cases g2
     ·cases g2
    ·cases g2
   ·next id n=>
    split at b
    ·next m et _ hg=>
     split at b
     ·next U=>
      have Kt:=bV U;subst Kt;obtain⟨m',L,rfl⟩:=bJ.1 b;obtain⟨g,M,g2⟩:=iG L;simp only[VR]at c;obtain⟨o,N,c⟩:=c;simp only[Nd.den,N,p]at g2;split at g2
      ·next ab k j O Q=>
       cases O;cases Q;simp only[GR]at f;subst f;split at g2
       ·next A=>
        cases g2;rcases c with⟨q,G,V,rfl⟩|⟨_,rfl,_⟩
        ·obtain⟨_,_,_,_,_,D,_⟩:=(h.at hg G).OJ;rw[d]at D;cases D;have S:Ar P t (.sl id 0 o.length none) (.i k j)=some (.p id (0+j.toNat*q.es)):=by simp only[Ar,H,yG,d,au A]
         obtain⟨T,E,h7⟩:=RD (P:=P) (w:=w) (x:=.slice (some ⟨q.bl,q.ba,none⟩) o.length (q.sz/q.es)) S (by simp only[VR];exact⟨q,G,by simpa using V,aA⟩) (by simp only[VR]:VR F (.i k j) (.int k j));refine⟨T,E,?_⟩;simp only[VR]at h7⊢;obtain⟨q',s,rfl⟩:=h7;rw[G]at s;cases s;exact⟨q,.i64,j,G,M,aA⟩
        ·simp at A;omega
       ·cases g2
      ·cases g2
     ·cases b
    ·cases b
   ·next id W len X=>
    split at b
    ·next k Y=>
     obtain⟨Z,m,rfl,rfl⟩:=RU p f Y;have l:Ar P t (.sl id W len X) (.i Z m)=some v:=b;exact RD l c (by simp only[VR])
    ·cases b
   ·cases b
  ·cases b
 ·next len e H=>
  split at b
  ·next ni hi=>
   obtain⟨g,p,_,f⟩:=nV hi hy;split at b
   ·next k Y=>
    obtain⟨Z,m,rfl,rfl⟩:=RU p f Y;have l:Ar P t a (.i Z m)=some v:=b;exact RD l c (by simp only[VR])
   ·cases b
  ·cases b
 ·cases b
def aEH{t:TypeId}{ts:Ww}{ty:TypeId}{a v:AV}{x:Value}(r:ts[0]? =some t)(j:adS P t a=some v)(h:VR F a x):
 ∃y,(Builtin.len_ ts ty #[x]).run P w=.ok y w/\VR F v y:=by
 have m:∀s:Q0,P.underlying t=some .string->(Builtin.len_ ts ty #[.string ⟨⟨s⟩⟩]).run P w=.ok (.int .i64 s.length) w:=λs f=>by simp[Builtin.len_,r,bG f,goInt,strSize]
 have l:∀(e:TypeId) b (n c:Nat),P.underlying t=some (.slice e)->(Builtin.len_ ts ty #[.slice b n c]).run P w=.ok (.int .i64 n) w:=λe b n c f=>by simp[Builtin.len_,r,bG f,goInt]
 unfold adS at j;split at j
 ·next n f=>
  obtain⟨_,g,_,d,i⟩:=oU (F:=F) j;simp only[VR]at h;obtain⟨g0,o,u,k⟩:=h;simp only[Nd.den,o]at d;split at d
  ·next s p=>
   cases p;cases d;simp only[GR]at k;subst k;exact⟨_,m s f,i _ rfl (by simp only[GR])⟩
  ·cases d
 ·next e n f=>
  obtain⟨_,g,_,d,i⟩:=oU (F:=F) j;simp only[VR]at h;obtain⟨g0,o,u,k⟩:=h;simp only[Nd.den,o]at d;split at d
  ·next z p=>
   cases p;cases d;simp only[GR]at k;rcases k with⟨rfl,_,rfl⟩|⟨G,A,c,H,I,rfl,_⟩
   ·exact⟨_,l e _ _ _ f,i _ rfl (by simp only[GR];rfl)⟩
   ·exact⟨_,l e _ _ _ f,i _ rfl (by simp only[GR])⟩
  ·cases d
 ·next e id n f=>
  obtain⟨_,g,_,d,i⟩:=oU (F:=F) j;simp only[VR]at h;obtain⟨z,D,h⟩:=h;simp only[Nd.den,D,bF]at d;subst d;rcases h with⟨q,L,E,rfl⟩|⟨_,rfl,rfl⟩
  ·exact⟨_,l e _ _ _ f,i _ rfl (by simp only[GR])⟩
  ·exact⟨_,l e _ _ _ f,i _ rfl (by simp only[GR];rfl)⟩
 ·cases j
def aEG{t:TypeId}{a i v:AV}{x y:Value}(b:YE P t a i=some v)(p:VR F a x)(q:VR F i y):∃z,(Instr.index t x y).run P w=.ok z w/\VR F v z:=by
 unfold YE at b;split at b
 ·next r=>
  split at b
  ·next n A D h=>
   obtain⟨T,l,U,f⟩:=nV h q;obtain⟨V,E,W,u⟩:=nV D p;obtain⟨_,g,_,d,G⟩:=oU (F:=F) b;simp only[Nd.den,E,l]at d;split at d
   ·next s k j H I=>
    cases H;cases I;simp only[GR]at f;subst f;simp only[GR]at u;subst u;split at d
    ·next L=>
     split at d
     ·next c M=>
      cases d;have N:GN P t (.s s) (.i k j)=some (.i .u8 c.toNat):=by simp only[GN,r,yG,au L,M]
      obtain⟨z,O,Q⟩:=abv (P:=P) (w:=w) (F:=F) N (by simp only[VR]:VR F (.s s) (.string ⟨⟨s⟩⟩)) (by simp only[VR]:VR F (.i k j) (.int k j));exact⟨z,O,G z rfl ((nH _ _).2 Q)⟩
     ·cases d
    ·cases d
   ·cases d
  ·cases b
 ·next len e r=>
  split at b
  ·next A hi=>
   obtain⟨g,l,_,f⟩:=nV hi q;split at b
   ·next k R=>
    obtain⟨S,m,rfl,rfl⟩:=RU l f R;have o:GN P t a (.i S m)=some v:=b;exact abv o p (by simp only[VR])
   ·cases b
  ·cases b
 ·cases b
def afJ{F:Env}{lo:Q4}{b:WD}{l:Nat}{d:Nd}{e:GV}(i:(match lo with|none=>gI d|some a=>jD a)=some l)(f:nI F lo b)(j:aJ.val l=some e):
 (lo=none/\b=none/\d.den aJ.I aJ.val=some e)\/(∃v,b=some v/\GR F.ro e v):=by
 cases lo with
 |none=>
  obtain⟨g,c,k⟩:=iG i;rw[j]at c;cases c;refine .inl ⟨rfl,?_,k⟩;cases b with
  |none=>rfl
  |some v=>simp[nI]at f
 |some a=>
  cases b with
  |none=>simp[nI]at f
  |some v=>
   have h:VR F a v:=by simpa[nI]using f
   obtain⟨g,c,_,m⟩:=nV i h;rw[j]at c;cases c;exact .inr ⟨v,rfl,m⟩
def adU{lo hi:Q4}{f g:WD}{l h:Nat}{d:Nd}{k m:IntKind}{j c:Int}{len:Nat}(n:Qx lo=some l)(o:Vb d hi=some h)(h1:nI F lo f)(s:nI F hi g)
 (t:aJ.val l=some (.i k j)) (u:aJ.val h=some (.i m c)) (x:d.den aJ.I aJ.val=some (.i m c)->c=len) (h0:0<=j) (y:j<=c) (z:c<=len):
 ∃a b:Q4,nI F a f/\nI F b g/\zL len (λh=>Nat.ble h len) a b=some (j.toNat,c.toNat):=by
 have p:=afJ (d:=.ci .i64 0) (by cases lo<;>exact n) h1 t;have q:=afJ (d:=d) (by cases hi<;>exact o) s u;have i:Nat.ble c.toNat len=true:=ae1 ah;have A:∃b:Q4,nI F b g/\Dj len (λh=>Nat.ble h len) b=some c.toNat:=by
  rcases q with⟨_,r,e⟩|⟨v,rfl,e⟩
  ·refine⟨none,by rw[r];simp[nI],?_⟩;simp only[Dj];rw[x e];simp
  ·simp only[GR]at e;subst e;exact⟨some (.i m c),by simp[nI,VR],by simp only[Dj,yG];rw[au ⟨ah,i⟩]⟩
 have D:∃a:Q4,nI F a f/\Nk c.toNat a=some j.toNat:=by
  rcases p with⟨_,r,e⟩|⟨v,rfl,e⟩
  ·refine⟨none,by rw[r];simp[nI],?_⟩;simp only[Nd.den,bF,GV.i.injEq]at e;simp only[Nk];rw[<-e.2];rfl
  ·simp only[GR]at e;subst e;exact⟨some (.i k j),by simp[nI,VR],by simp only[Nk,yG];rw[au ⟨h0,ah⟩]⟩
 obtain⟨b,E,G⟩:=A;obtain⟨a,H,I⟩:=D;exact⟨a,b,H,E,by simp only[zL,G,I]⟩
def amv(h:SR P F J w){t:TypeId}{a v:AV}{x:Value}{lo hi:Q4}{o p:WD}(b:TN P t a lo hi=some v)(I:VR F a x)(q:nI F lo o)(r:nI F hi p):
 ∃y,(Instr.sliceAt t x o p none).run P w=.ok y w/\VR F v y:=by
 unfold TN at b;split at b
 ·next L=>
  split at b
  ·next n hn=>
   split at b
   ·next l hh M N=>
    obtain⟨gs,u,s2,G⟩:=nV hn I;obtain⟨_,g,_,c,O⟩:=oU (F:=F) b;simp only[Nd.den,u]at c;split at c
    ·next s k H k' d Q R S=>
     cases Q;split at c
     ·next A=>
      cases c;simp only[GR]at G;subst G;obtain⟨j,m,T,U,V⟩:=adU (len:=s.length) M N q r R S (λD=>by simp only[Nd.den,u,bF,GV.i.injEq]at D;exact D.2.symm) A.1 A.2.1 A.2.2;have W:Dp P t J (.s s) j m=some (.s ((s.take d.toNat).drop H.toNat)):=by simp only[Dp,L,V,iJ]
      obtain⟨z,X,Y⟩:=Yq h W (by simp only[VR]:VR F (.s s) (.string ⟨⟨s⟩⟩)) T U;exact⟨z,X,O z rfl ((nH _ _).2 Y)⟩
     ·cases c
    ·cases c
   ·cases b
  ·cases b
 ·next e L=>
  split at b
  ·next n E Z=>
   split at b
   ·next l hh M N=>
    simp only[VR]at I;obtain⟨gs,u,s2,G⟩:=I;obtain⟨_,g,_,c,O⟩:=oU (F:=F) b;simp only[Nd.den,u]at c;split at c
    ·next f k H k' d Q R S=>
     cases Q;split at c
     ·next A=>
      cases c;obtain⟨c1,c2,c3,c4⟩:=A;obtain⟨j,m,T,U,V⟩:=adU (len:=f.length) M N q r R S (λD=>by simp only[Nd.den,u,bF,GV.i.injEq]at D;exact D.2.symm) c1 c2 c3;have W:Dp P t J (.ro (eY f)) j m=some (.ro (eY ((f.take d.toNat).drop H.toNat))):=by
       simp only[Dp,L,Z,oG,V,BD];unfold U0;split
       ·next e=>
        have:(f.take d.toNat).drop H.toNat=[]:=Je (by simp;omega);rw[this];rfl
       ·next e=>
        have i:0<f.length:=ah;have h0:(eY f)[0]? =some (mD f[0]):=by rw[Rf,bZ i];rfl
        rw[h0];simp only;have aa:(mD f[0]).cells.length=E:=by rw[Og,oG];rw[List.all_eq_true]at c4;exact bV (c4 _ (iT i))
        rw[au aa,Wv,Wx]
      obtain⟨z,X,Y⟩:=Yq h W ((nH (.l f) x).1 G) T U;exact⟨z,X,O z rfl ((nH _ _).2 (by simpa only[mD]using Y))⟩
     ·cases c
    ·cases c
   ·cases b
  ·cases b
 ·cases b
def aAa{cs vs r:Q1}{off:Nat}(h:putCells cs off vs=some r):off+vs.length<=cs.length/\r=cs.take off++vs++cs.drop (off+vs.length):=by
 unfold putCells at h;split at h
 ·next a=>cases h;exact⟨a,rfl⟩
 ·cases h
def GV.aAf{x y:GV}{off:Nat}{vs:Q1}(h:x.put off vs=some y)(c:vs.all GV.scalar=true)(e:x.cells.all GV.scalar=true):off+vs.length<=x.cells.length/\y.cells=x.cells.take off++vs++x.cells.drop (off+vs.length)/\y.cells.length=x.cells.length/\y.cells.all GV.scalar=true:=by
 have fin:∀r:Q1,off+vs.length<=x.cells.length->r=x.cells.take off++vs++x.cells.drop (off+vs.length)->r.length=x.cells.length/\r.all GV.scalar=true:=by intro r f d;subst d;refine⟨by simp;omega,?_⟩;rw[aeF,aeF,c];rw[List.all_eq_true]at e;simp only[Uk,aO,List.all_eq_true];exact⟨λa j=>e a (MR j),λa j=>e a (MQ j)⟩
 have one:∀v,off=0->vs=[v]->x.cells.length=1->y=v->off+vs.length<=x.cells.length/\y.cells=x.cells.take off++vs++x.cells.drop (off+vs.length)/\y.cells.length=x.cells.length/\y.cells.all GV.scalar=true:=by intro v p q k t;subst p;subst q;subst t;simp only[uG,aeG,Uk]at c;have m:y.cells=[y]:=GV.LK c;refine⟨by simp[k],?_,by rw[m,k];rfl,by rw[m];simp[c]⟩;rw[m,Je (by rw[k];simp)];simp
 unfold GV.put at h;split at h
 ·next o=>
  obtain⟨r,u,rfl⟩:=bJ.1 h;obtain⟨f,d⟩:=aAa u;obtain⟨z,A⟩:=fin r f d;exact⟨f,d,z,A⟩
 ·next n=>
  have D:x.cells.length=1:=by
   cases x with
   |g o=>exact absurd rfl (n o)
   |_=>rfl
  split at h
  ·next v=>cases h;exact one y rfl rfl D rfl
  ·cases h
def ahA{y:GV}{vs:Q1}{off sz:Nat}:∀{xs:Q1}{i:Nat}{x:GV},(∀z∈xs,z.cells.length=sz)->xs[i]? =some x->off+vs.length<=sz->y.cells=x.cells.take off++vs++x.cells.drop (off+vs.length)->
 (xs.set i y).flatMap GV.cells=(xs.flatMap GV.cells).take (i*sz+off)++vs++(xs.flatMap GV.cells).drop (i*sz+off+vs.length)
 |[],i,x,_,hi,_,_=>by simp at hi
 |z::xs,0,x,c,hi,a,d=>by simp only[l9,bF]at hi;subst hi;have f:=c z aA;rw[List.set_cons_zero,kV,kV,d];rw[Uw ah,Zf ah];simp[List.append_assoc]
 |z::xs,i+1,x,c,hi,a,d=>by
  have f:=c z aA;have g:=ahA (i:=i) (λu h=>c u (zC _ h)) (by simpa using hi) a d;rw[List.set_cons_succ,kV,kV,g];have j:∀(b:Q1) k,(z.cells++b).take (z.cells.length+k)=z.cells++b.take k:=λF k=>by rw[List.take_append,mg ah,Zp]
  have l:∀(b:Q1) k,(z.cells++b).drop (z.cells.length+k)=b.drop k:=λF k=>by rw[aeL,Je ah,aX,Zp]
  have e:(i+1)*sz+off=z.cells.length+(i*sz+off):=by rw[f,uJ];omega
  rw[e,j,kC z.cells.length,l];simp[List.append_assoc]
def ab5:∀{l:Q3}{b:Q2},nodesOf l=some b->l.all AV.ql=true
 |[],_,_=>rfl
 |a::l,b,h=>by
  simp only[nodesOf]at h;split at h
  ·next n r c d=>
   simp only[uG,aO];exact⟨by cases a<;>simp[jD]at c<;>rfl,ab5 d⟩
  ·cases h
def aG.split{l m:Q3}:∀{vs:Q6},aG F (l++m) vs->∃a b,vs=a++b/\aG F l a/\aG F m b:=by
 intro vs h;have c:=h.length;rw[eH]at c;refine⟨vs.take l.length,vs.drop l.length,(Ji _ _).symm,?_,?_⟩
 ·have:=h.take l.length;rwa [Uw ah,mg ah]at this
 ·have:=h.drop l.length;rwa [Zf ah,Je ah,aX]at this
def aEM(h:SR P F J w){t:TypeId}{a v:AV}{x y:Value}(d:YL P t J a v=some J')(n:VR F a x)(O:VR F v y):
 ∃w',(Instr.storeAt t x y).run P w=.ok () w'/\St P F J w F J' w':=by
 unfold YL at d;split at d
 ·next id i b=>
  split at d
  ·next m r f Q=>
   split at d
   ·next hc=>
    obtain⟨R,S⟩:=hc;split at d
    ·next ag vs T s=>
     split at d
     ·next m' U=>
      cases d;simp only[VR]at n;obtain⟨q,k,j,D,hj,rfl⟩:=n;obtain⟨c,h1,V,h3,h4,h5,h6,E,hS⟩:=PU h Q D;rw[T]at h5;cases h5;obtain⟨W,g1,g2,g3⟩:=XB s (BN O);obtain⟨g,k1,p⟩:=iG U;simp only[Nd.den,h1,hj,g1]at p;split at p
      ·next ai=>
       split at p
       ·next u X=>
        split at p
        ·next Fh=>
         obtain⟨z,hz,rfl⟩:=bJ.1 p;obtain⟨p1,p2,p3,p4⟩:=GV.aAf hz g2 (E u (tN X));have Y:=ahA V X ah p2;have G:v.cells.length=W.length:=by rw[g3.length,(BN O).length]
         have Z:j.toNat<c.length:=(gu.1 X).1;have aa:(bW c).length=c.length*q.es:=by rw[bW,oG,Q5 V]
         have ab:j.toNat*q.es+b+v.cells.length<=(bW c).length:=by rw[aa,G];have:(j.toNat+1)*q.es<=c.length*q.es:=wC _ Z;rw[uJ]at this;omega
         have H:CS (bW c) (j.toNat*q.es+b) v.cells=some ((bW c).take (j.toNat*q.es+b)++v.cells++(bW c).drop (j.toNat*q.es+b+v.cells.length)):=by unfold CS;rw[au ab]
         have ac:GU P t (mJ J id c r) (.p id (j.toNat*q.es+b)) v=some ((mJ J id c r).put id (.cells ((bW c).take (j.toNat*q.es+b)++v.cells++(bW c).drop (j.toNat*q.es+b+v.cells.length)) r true true)):=by simp only[GU,Gq];rw[au ⟨R,S,ab5 s⟩,H];rfl
         obtain⟨w',I,l⟩:=Yz hS ac (x:=.pointer (some ⟨q.bl,q.ba+j.toNat*q.es+b,none⟩)) (by simp only[VR];exact⟨q,D,by rw[kC]⟩) O;refine⟨w',I,(TW Q l).right ?_ rfl rfl ?_⟩
         ·have ad:=l.rel.at (id:=id) (q:=q) (by rw[aC.get_put,au rfl]) D;have L:OR P F q w' (.vec m' r f):=by
           refine OR.Ae (λe=>by subst e;exact(h.at Q D).Y0) k1 ?_ ?_ ad ?_
           ·intro x n;rcases aeW n with n|rfl
            ·exact V x n
            ·rw[p3,Fh]
           ·intro x n;rcases aeW n with n|rfl
            ·exact E x n
            ·exact p4
           ·intro us ae;have e1:bW (c.set j.toNat z)=(bW c).take (j.toNat*q.es+b)++eY W++(bW c).drop (j.toNat*q.es+b+W.length):=by unfold bW;rw[Y,J7,J7,Wx,Wv]
            rw[e1,<-G];obtain⟨u1,u2,rfl,q1,q2⟩:=aG.split ae;obtain⟨u3,u4,rfl,q3,q4⟩:=aG.split q1;obtain⟨ak,M,_,af⟩:=XB s q4;rw[g1]at M;cases M;exact(q3.append ((qX _ _).1 af)).append q2
          have N:=aC.get_put (mJ J id c r) id id (.cells ((bW c).take (j.toNat*q.es+b)++v.cells++(bW c).drop (j.toNat*q.es+b+v.cells.length)) r true true);rw[au rfl]at N;have:=l.rel.swap (o':=.vec m' r f) N rfl (.inl ⟨q,D,L⟩);refine this.sub (λal o A=>?_) (dP _);unfold mJ;rw[aC.get_put]at A⊢;split at A
          ·next e=>rw[au e];exact A
          ·next e=>rw[aj e,aC.get_put,aj e,aC.get_put,aj e];exact A
         ·intro k' u' hk A;rw[aC.get_put]at hk⊢;split at hk
          ·next e=>rw[au e];exact⟨_,rfl,rfl⟩
          ·next e=>
           rw[aj e];unfold mJ;rw[aC.get_put,aj e];exact⟨u',hk,A⟩
        ·cases p
       ·cases p
      ·cases p
     ·cases d
    ·cases d
   ·cases d
  ·cases d
 ·cases d
def Env.ghost(F:Env)(id:Nat):Env:=⟨F.pl,F.ro,λk=>Nat.beq k id ||F.gh k⟩
def St.ghost(h:SR P F J w){τ:aC}{m et:Nat}{f:Bool}(A:aJ.val m=some (.l []))(D:τ.lock=J.lock)(E:τ.next=J.next)(l:∀k o,τ.get k=some o->J.get k=some o):
 St P F J w (F.ghost J.next) (τ.new (.vec m et f)) w:=by
 have c:F.le (F.ghost J.next):=⟨λ_ _ h=>h,λ_ _ h=>h,λid n=>by simp[Env.ghost,n]⟩
 have get:∀k o,(τ.new (.vec m et f)).get k=some o->(k=J.next/\o=.vec m et f)\/(k≠J.next/\J.get k=some o):=by
  intro k o t;rw[aC.rD,E]at t;split at t
  ·next e=>cases t;exact .inl ⟨e,rfl⟩
  ·next e=>exact .inr ⟨e,l k o t⟩
 have pl:∀k,(F.ghost J.next) k=F k:=λ_=>rfl;have b:∀k q,k=J.next->F k=some q->False:=λk q e d=>by have:=h.dom k q d;omega
 refine⟨c,⟨h.oO,λid q d=>?_,λid o G=>?_,λid n=>?_,λid o g v q x r s j u y z=>?_,h.jF,λid o q r s j=>?_,λp H=>(h.tabs p H).mono c⟩,dP _,λ_ _ _=>rfl,λid o q r s j u=>?_,rfl,rfl,rfl,D,?_,?_,λ_ h=>.inl h⟩
 ·have:=h.dom id q d;show id<τ.next+1;omega
 ·rcases get id o G with⟨rfl,rfl⟩|⟨_,i⟩
  ·exact .inr ⟨by simp[Env.ghost],m,et,f,rfl,A⟩
  ·exact(h.live id o i).mono c
 ·have a:(Nat.beq id J.next ||F.gh id)=true:=n;rw[qF]at a;rcases a with a|a
  ·have e:=bV a;subst e;refine⟨?_,by show J.next<τ.next+1;omega⟩;rw[pl];cases d:F J.next with
   |none=>rfl
   |some q=>exact absurd (h.dom _ q d) ah
  ·have:=h.kZ id a;exact⟨this.1,by show id<τ.next+1;omega⟩
 ·rcases get id o r with⟨e,_⟩|⟨_,i⟩
  ·exact(b id q e y).elim
  ·rcases get g v j with⟨e,_⟩|⟨_,I⟩
   ·exact(b g x e z).elim
   ·exact h.sep id o g v q x i s I u y z
 ·rcases get id o r with⟨e,_⟩|⟨_,i⟩
  ·exact(b id q e j).elim
  ·exact h.ng id o q i s j
 ·rcases get id o r with⟨e,_⟩|⟨_,i⟩
  ·exact(b id q e u).elim
  ·exact .inr ⟨id,o,q,i,s,j,u,rfl⟩
 ·show J.next<=τ.next+1;omega
 ·rintro id (⟨q,d⟩|n)
  ·exact .inl (.inl ⟨q,d⟩)
  ·have a:(Nat.beq id J.next ||F.gh id)=true:=n;rw[qF]at a;rcases a with a|a
   ·have e:=bV a;right;show J.next<=id/\id<τ.next+1;omega
   ·exact .inl (.inr a)
def Ba:∀(f:Nat){m n:Nat}{xs l:Q1},x9 f m n=true->aJ.val m=some (.l xs)->aJ.val n=some (.l l)->xs.length=l.length
 |0,m,n,xs,l,h,h1,c=>by have:=bV h;subst this;rw[h1]at c;cases c;rfl
 |f+1,m,n,xs,l,h,h1,c=>by
  simp only[x9,qF]at h;rcases h with h|h
  ·have:=bV h;subst this;rw[h1]at c;cases c;rfl
  ·split at h
   ·next z o a i u p=>
    obtain⟨g,d,g2⟩:=aJ.uo m _ p aA;rw[h1]at d;cases d;simp only[Nd.den]at g2;split at g2
    ·next r k j v q s x=>
     split at g2
     ·split at g2
      ·split at g2
       ·obtain⟨y,_,e⟩:=bJ.1 g2;cases e;rw[Jg];exact Ba f h q c
       ·cases g2
      ·cases g2
     ·cases g2
    ·cases g2
   ·next a b p=>
    obtain⟨g,d,g2⟩:=aJ.uo m _ p aA;rw[h1]at d;cases d;simp only[Nd.den]at g2;split at g2
    ·next r A q s=>
     split at g2
     ·next t=>cases g2;rw[t];exact Ba f h q c
     ·cases g2
    ·cases g2
   ·cases h
def aDt:∀(f:Nat){m n:Nat}{g:GV}{j:Q1},x9 f m n=true->aJ.val m=some g->aJ.val n=some (.l j)->∃xs,g=.l xs
 |0,m,n,g,j,h,h1,c=>by have:=bV h;subst this;rw[h1]at c;cases c;exact⟨_,rfl⟩
 |f+1,m,n,g,j,h,h1,c=>by
  simp only[x9,qF]at h;rcases h with h|h
  ·have:=bV h;subst this;rw[h1]at c;cases c;exact⟨_,rfl⟩
  ·split at h
   ·next z o a i p k=>
    obtain⟨l,d,g2⟩:=aJ.uo m _ k aA;rw[h1]at d;cases d;simp only[Nd.den]at g2;split at g2
    ·split at g2
     ·split at g2
      ·split at g2
       ·obtain⟨y,_,e⟩:=bJ.1 g2;exact⟨_,e.symm⟩
       ·cases g2
      ·cases g2
     ·cases g2
    ·cases g2
   ·next a b k=>
    obtain⟨l,d,g2⟩:=aJ.uo m _ k aA;rw[h1]at d;cases d;simp only[Nd.den]at g2;split at g2
    ·split at g2
     ·cases g2;exact⟨_,rfl⟩
     ·cases g2
    ·cases g2
   ·cases h
def Hz{agg:Bool}{size:Nat}(h1:agg=false->size=1):∀(n:Nat){cs:Q3}{f:Q2}{vs:Q6},elemsOf agg size n cs=some f->aG F cs vs->cs.length=n*size->
 ∃gs,valsOf aJ.val f=some gs/\gs.length=n/\aG F (bW gs) vs/\cs.all AV.ql=true/\∀x∈gs,x.cells.length=size/\x.cells.all GV.scalar=true
 |0,cs,f,vs,h,e,k=>by simp only[elemsOf,bF]at h;subst h;have:cs=[]:=kK (by simpa using k);subst this;exact⟨[],rfl,rfl,by simpa[bW,eY]using e,rfl,aA⟩
 |n+1,cs,f,vs,h,e,k=>by
  simp only[elemsOf]at h;rw[uJ,Jl]at k;split at h
  ·next a r b E=>
   cases h;obtain⟨gs,u,v,y,z,A⟩:=Hz h1 n E (e.drop size) (by simp;omega);have o:cs=cs.take size++cs.drop size:=(Ji _ _).symm;have p:vs=vs.take size++vs.drop size:=(Ji _ _).symm;cases agg with
   |true=>
    simp only[if_true]at b;have i:VR F (.agg (cs.take size)) (.agg ⟨vs.take size⟩):=by simp only[VR];exact⟨_,rfl,e.take size⟩
    obtain⟨l,m,q,j,s,G,D⟩:=Np b i;cases q;refine⟨.g m::gs,by simp only[valsOf,s,u],by simp[v],?_,?_,?_⟩
    ·have:bW (.g m::gs)=eY m++bW gs:=by unfold bW;rw[kV,J7];rfl
     rw[this,p];refine aG.append ?_ y;simp only[GR]at D;obtain⟨M,H,I⟩:=D;cases H;exact(qX _ _).1 I
    ·rw[o,aeF,aO];refine⟨?_,z⟩;unfold GX at b;simp only at b;split at b
     ·next f t=>exact ab5 t
     ·cases b
    ·intro x d;rcases bI.1 d with rfl|d
     ·exact⟨by show m.length=size;rw[j,mP];omega,G⟩
     ·exact A x d
   |false=>
    have:=h1 rfl;subst this;simp only[iZ,if_false]at b;cases cs with
    |nil=>simp at k
    |cons c cs=>
     simp only[Zi,BD]at b;simp only[aG]at e;obtain⟨x,N,rfl,d,L⟩:=e;obtain⟨g,q,j,s⟩:=nV b d;refine⟨g::gs,by simp only[valsOf,q,u],by simp[v],?_,?_,?_⟩
     ·have:bW (g::gs)=eY g.cells++bW gs:=by unfold bW;rw[kV,J7]
      rw[this,GV.LK j];simp only[eY,bD,aX];exact aG.cons ((nH _ _).1 s) (by simpa using y)
     ·simp only[uG,aO];exact⟨by cases c<;>simp[jD]at b<;>rfl,by simpa using z⟩
     ·intro x d;rcases bI.1 d with rfl|d
      ·rw[GV.LK j];exact⟨rfl,by simp[j]⟩
      ·exact A x d
  ·cases h
def axe(h:SR P F J w){e:TypeId}{x:AV}{b size:Nat}{u:Value}{Q e':TypeId}{xs:Q1}(d:listOf P J e x=some b)(i:VR F x u)(ht:P.underlying Q=some (.slice e'))(Z:sizeT P e=some size)(v:aJ.val b=some (.l xs))(hs:xs.all (GV.gQ size)=true):
 ∃y,Src P size Q u xs.length y w/\aG F (bW xs) y:=by
 have A:Il P Q=true:=by unfold Il;rw[ht]
 have D:∀z∈xs,z.cells.length=size/\z.cells.all GV.scalar=true:=by intro z E;rw[List.all_eq_true]at hs;have:=hs z E;unfold GV.gQ at this;rw[aO]at this;exact⟨Nat.eq_of_beq_eq_true this.1,this.2⟩
 have k:(bW xs).all AV.ql=true:=by unfold bW;refine aa1 ?_;rw[List.all_eq_true];intro g s;obtain⟨z,E,R⟩:=aeV.1 s;exact List.all_eq_true.1 (D z E).2 g R
 unfold listOf at d;split at d
 ·next n=>
  cases d;simp only[VR]at i;obtain⟨g,h1,S,h3⟩:=i;rw[v]at h1;cases h1;have f:Bd J size (.ro (eY xs))=some (xs.length,bW xs):=by simp only[Bd];rw[au,oG,aa0];rfl;rw[List.all_eq_true];intro a T;rw[yP]at T;obtain⟨z,E,rfl⟩:=rZ.1 T;rw[Og,oG,(D z E).1];simp
  exact src_ok h A f ((nH (.l xs) u).1 h3) k
 ·obtain⟨g,h1,S⟩:=iG d;rw[v]at h1;cases h1;simp only[Nd.den,valsOf,iJ,bF,GV.l.injEq]at S;subst S;exact src_ok h A (size:=size) (n:=0) (l:=[]) rfl i rfl
 ·next id n=>
  split at d
  ·next m et _ s=>
   split at d
   ·next t=>
    cases d;rw[aO]at t;simp only[VR]at i;obtain⟨y,h1,i⟩:=i;have o:=Ba 100 t.2 v h1;rcases i with⟨q,G,j,rfl⟩|⟨_,rfl,rfl⟩
    ·obtain⟨ab,H,U,k3,k4,k5,k6,_,hS⟩:=PU h s G;rw[v]at H;cases H;have e:=bV t.1;subst e;rw[Z]at k5;cases k5;have f:Bd (mJ J id xs e) q.es (.sl id 0 xs.length none)=some (xs.length,bW xs):=by
      simp only[Bd,Gq];have:takeN (bW xs) 0 (xs.length*q.es)=some (bW xs):=by
       have d:(bW xs).length=xs.length*q.es:=by rw[bW,oG,Q5 U]
       unfold takeN;rw[dY,mg ah,au d]
      rw[this];rfl
     rw[<-o]at j⊢;exact src_ok hS A f (by simp only[VR];exact⟨q,G,by simpa using j,aA⟩) k
    ·have:xs=[]:=kK (by simpa using o);subst this;exact src_ok h A (a:=.iq) (size:=size) (n:=0) (l:=[]) rfl (by simp only[VR]) rfl
   ·cases d
  ·cases d
 ·next id V len W=>
  split at d
  ·next c et xk ac X Y s I T=>
   rw[Z]at I;cases I;split at d
   ·next t=>
    rw[aO,qF,aO]at t;split at d
    ·next cs r=>
     split at d
     ·next ns L=>
      have p:Y=false->size=1:=by
       intro e;subst e;rcases t.2 with h1|h1
       ·simp at h1
       ·exact bV h1
      obtain⟨g,g1,g2⟩:=iG d;rw[v]at g1;cases g1;simp only[VR]at i;obtain⟨q,G,j,rfl⟩:=i;obtain⟨q',M,ws,aa,fr,hb,rr⟩:=h.obj _ _ s rfl;rw[G]at M;cases M;have N:=(vg r).2.1;obtain⟨gs,H,U,k3,k4,_⟩:=Hz (F:=F) p len L (rr.Bf r) N;simp only[Nd.den,H,iJ,bF,GV.l.injEq]at g2;subst g2;obtain⟨y,j1,j2⟩:=src_ok h A (size:=size) (n:=len) (l:=cs) (a:=.sl id V len W) (by simp only[Bd,s,r,iJ]) (by simp only[VR];exact⟨q,G,j,rfl⟩) k4;obtain⟨ad,O,ae,WY,_⟩:=Hz (F:=F) p len L j2 N;rw[H]at O;cases O;rw[U];exact⟨y,j1,WY⟩
     ·cases d
    ·cases d
   ·cases d
  ·cases d
 ·cases d
def afP(s:Q0):bW (dK s)=yK s:=by
 unfold bW dK yK;induction s with
 |nil=>rfl
 |cons c s a=>simp only[iU,kV,GV.cells,bD,aX,eY,mD,a]
