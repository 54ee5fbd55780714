/- Values that are named by nodes: numbers, texts, truth values, parts of what nobody changes. -/
import Derived.Test.YtboioicpmmipfaaGreatDoorAbsC
import Derived.Laws.StructEq
set_option linter.all false
namespace Go.aP
noncomputable section
variable[aJ]
variable{P:Program}{H:Env}{F F':aC}{w:World}
mutual
def mG:GV->AV
 |.b x=>.b x
 |.i k n=>.i k n
 |.s x=>.s x
 |.g cs=>.agg (fB cs)
 |.l xs=>.ro (fB xs)
def fB:Q1->List AV
 |[]=>[]
 |a::l=>mG a::fB l
end
def yS:∀l:Q1,fB l=l.map mG
 |[]=>rfl
 |a::l=>by simp[fB,yS l]
def oG(l:Q1):(fB l).length=l.length:=by rw[yS];simp
def Q5(l:Q1)(k:Nat):(fB l)[k]? =(l[k]?).map mG:=by rw[yS];simp
mutual
def nI:∀(g:GV)(v:Value),GR H.ro g v↔VR H (mG g) v
 |.b _,_=>by simp only[GR,VR,mG]
 |.i _ _,_=>by simp only[GR,VR,mG]
 |.s _,_=>by simp only[GR,VR,mG]
 |.g cs,v=>by
  simp only[GR,VR,mG];constructor
  ·rintro⟨vs,e,h⟩;exact⟨vs,e,(qX cs vs).1 h⟩
  ·rintro⟨vs,e,h⟩;exact⟨vs,e,(qX cs vs).2 h⟩
 |.l xs,v=>by
  simp only[GR,VR,mG,oG];have f:fB xs=[]↔xs=[]:=by cases xs<;>simp[fB]
  rw[f];constructor
  ·rintro(h|⟨i,a,c,d,j,e,k,h,l,m⟩)
   ·exact .inl h
   ·exact .inr ⟨i,a,c,d,j,e,k,(qX xs d).1 h,l,λb=>m (λe=>b (f.2 e))⟩
  ·rintro(h|⟨i,a,c,d,j,e,k,h,l,m⟩)
   ·exact .inl h
   ·exact .inr ⟨i,a,c,d,j,e,k,(qX xs d).2 h,l,λb=>m (λe=>b (f.1 e))⟩
def qX:∀(l:Q1)(vs:Q6),aV H.ro l vs↔aG H (fB l) vs
 |[],_=>by simp only[aV,aG,fB]
 |a::l,vs=>by
  simp only[aV,aG,fB];constructor
  ·rintro⟨x,xs,e,h1,b⟩;exact⟨x,xs,e,(nI a x).1 h1,(qX l xs).1 b⟩
  ·rintro⟨x,xs,e,h1,b⟩;exact⟨x,xs,e,(nI a x).2 h1,(qX l xs).2 b⟩
end
def N8(g:GV):(mG g).cells=fB g.cells:=by cases g<;>simp[mG,fB,AV.cells,GV.cells]
def aa3:∀l:Q1,(fB l).flatMap AV.cells=fB (l.flatMap GV.cells)
 |[]=>rfl
 |a::l=>by simp only[fB,kY,aa3 l,N8];rw[yS,yS,yS,oJ]
def GR.cells{g:GV}{v:Value}(h:GR H.ro g v):aG H (fB g.cells) v.cells.toList:=by rw[<-N8];exact BL ((nI g v).1 h)
def GR.agp{g:GV}{v:Value}(h:GR H.ro g v):g.cells.length=v.cells.size:=by have:=h.cells.length;rw[oG]at this;simpa using this
def GV.LM{g:GV}(h:g.scalar=true):g.cells=[g]:=by cases g<;>first|rfl|(cases h)
def av3{g:GV}(h:g.scalar=true):(mG g).qp=true:=by cases g<;>first|rfl|(cases h)
def aa4:∀{l:Q1},l.all GV.scalar=true->(fB l).all AV.qp=true
 |[],_=>rfl
 |a::l,h=>by simp only[uH,aO]at h;simp only[fB,uH,aO];exact⟨av3 h.1,aa4 h.2⟩
def aV.length{ro:Qf}:∀{l:Q1}{vs:Q6},aV ro l vs->l.length=vs.length
 |[],vs,h=>by simp only[aV]at h;subst h;rfl
 |a::l,vs,h=>by simp only[aV]at h;obtain⟨x,xs,rfl,_,b⟩:=h;simp[aV.length b]
def aV.at{ro:Qf}:∀{l:Q1}{vs:Q6},aV ro l vs->∀{k:Nat}{a:GV},l[k]? =some a->∃x,vs[k]? =some x/\GR ro a x
 |[],vs,h,k,a,c=>by simp at c
 |b::l,vs,h,k,a,c=>by
  simp only[aV]at h;obtain⟨x,xs,rfl,h1,d⟩:=h;cases k with
  |zero=>simp at c;subst c;exact⟨x,aA,h1⟩
  |succ k=>obtain⟨y,e,f⟩:=aV.at d (by simpa using c);exact⟨y,by simpa using e,f⟩
def iJ{x:Nd}{n:Nat}(h:gB x=some n):∃g,aJ.val n=some g/\x.den aJ.I aJ.val=some g:=by obtain⟨a,b⟩:=auM h;exact aJ.uq n x a b
def apV{m f:Nat}(h:aas m f=true):(∃k a b,aJ.val m=some (.i k a)/\aJ.val f=some (.i k b)/\a≠b)\/(∃a b,aJ.val m=some (.s a)/\aJ.val f=some (.s b)/\a≠b):=by
 unfold aas at h;split at h
 ·next k a q b i j=>
  rw[aO]at h;have:=WZ h.1;subst this;obtain⟨g,n,c⟩:=aJ.uq _ _ i aA;obtain⟨p,o,d⟩:=aJ.uq _ _ j aA;simp only[Nd.den,bD]at c d;subst c;subst d;refine .inl ⟨k,a,b,n,o,λe=>?_⟩;subst e;rw[(ai4 (a:=a) (b:=a)).2 rfl]at h;simp at h
 ·next a b i j=>
  obtain⟨g,n,c⟩:=aJ.uq _ _ i aA;obtain⟨p,o,d⟩:=aJ.uq _ _ j aA;simp only[Nd.den,bD]at c d;subst c;subst d;refine .inr ⟨a,b,n,o,λe=>?_⟩;subst e;rw[(af6 (l:=a) (m:=a)).2 rfl]at h;simp at h
 ·cases h
def ab4{n m:Nat}:∀{l:Wk},(∀p∈l,aJ.val p.1=some (.b p.2))->IB n m l=true->(∃k a b,aJ.val n=some (.i k b)/\aJ.val m=some (.i k a)/\a≠b)\/(∃a b,aJ.val n=some (.s b)/\aJ.val m=some (.s a)/\a≠b)
 |[],_,h=>by simp[IB]at h
 |p::l,s,h=>by
  simp only[IB,qF]at h;rcases h with h|h
  ·cases d:p.2 with
   |false=>rw[d]at h;simp at h
   |true=>
    rw[d]at h;simp only[cond_true]at h;split at h
    ·next B D u=>
     rw[aO]at h;have e:=bV h.1;subst e;obtain⟨g,v,c⟩:=aJ.uq _ _ u aA;have t:=s p aA;rw[d,v]at t;cases t;simp only[Nd.den]at c;rcases apV h.2 with⟨k,a,b,f,i,j⟩|⟨a,b,f,i,j⟩
     ·rw[i]at c;split at c
      ·next x y o r=>
       cases r;cases x<;>simp only[jg,dA,reduceCtorEq]at c
       split at c
       ·next z=>
        subst z;simp only[bD,GV.b.injEq,beq_iff_eq]at c;subst c;exact .inl ⟨_,a,_,o,f,j⟩
       ·cases c
      ·cases c
     ·rw[i]at c;split at c
      ·next x y o r=>
       cases r;cases x<;>simp only[jg,zo,reduceCtorEq]at c
       simp only[bD,GV.b.injEq,beq_iff_eq]at c;subst c;exact .inr ⟨a,_,o,f,j⟩
      ·cases c
    ·cases h
  ·exact ab4 (λq A=>s q (by simp[A])) h
def agA{c n m:Nat}{b:Bool}:∀{l:Wk},(∀p∈l,aJ.val p.1=some (.b p.2))->NG c n m l=some b->∃d x y,xZ d=c/\aJ.val n=some x/\aJ.val m=some y/\jg d x y=some (.b b)
 |[],_,h=>by simp[NG]at h
 |p::l,f,h=>by
  have i:=λh=>agA (c:=c) (n:=n) (m:=m) (b:=b) (l:=l) (λq j=>f q (by simp[j])) h;simp only[NG]at h;split at h
  ·next d k o r=>
   cases a:Nat.beq n k&&Nat.beq m o&&Nat.beq (xZ d) c with
   |false=>rw[a]at h;exact i h
   |true=>
    rw[a]at h;simp only[cond_true,bD]at h;rw[aO,aO]at a;have s:=bV a.1.1;have t:=bV a.1.2;have u:=bV a.2;subst s;subst t;obtain⟨g,v,e⟩:=aJ.uq _ _ r aA;have g3:=f p aA;rw[v,h]at g3;cases g3;simp only[Nd.den]at e;split at e
    ·next x y z A=>exact⟨d,x,y,u,z,A,e⟩
    ·cases e
  ·exact i h
def apU{f c:BinOp}{x y g:GV}{r:Bool}(h:Hu f=some c)(h1:jg c x y=some (.b r))(d:jg f x y=some g):g=.b (!r):=by
 cases x with
 |i k a=>
  cases y with
  |i j b=>
   by_cases e:k=j
   ·subst e;unfold Hu at h;split at h<;>cases h<;>simp only[jg,dA,if_true,bD,GV.b.injEq]at h1 d<;>rw[<-h1,<-d]<;>congr 1<;>rw[zA]<;>simp<;>omega
   ·unfold Hu at h;split at h<;>cases h<;>simp only[jg,aj e]at h1<;>cases h1
  |_=>unfold Hu at h;split at h<;>cases h<;>simp[jg]at h1
 |s a=>
  cases y with
  |s b=>unfold Hu at h;split at h<;>cases h<;>simp only[jg,zo,bD,GV.b.injEq]at h1 d<;>rw[<-h1,<-d]<;>simp
  |_=>unfold Hu at h;split at h<;>cases h<;>simp[jg]at h1
 |_=>unfold Hu at h;split at h<;>cases h<;>simp[jg]at h1
def adB{a:BinOp}{n m:Nat}{b:Bool}{g:GV}(h:Ti a n m=some b)(c:(Nd.bin a n m).den aJ.I aJ.val=some g):g=.b b:=by
 unfold Ti at h;split at h
 ·next d f=>
  obtain⟨r,i,rfl⟩:=bI.1 h;obtain⟨j,x,y,e,k,l,o⟩:=agA (λp q=>aJ.Dw p.1 p.2 q) i;have:=akv.1 e;subst this;simp only[Nd.den,k,l]at c;exact apU f o c
 ·cases h
def aBZ{x:Nd}{b:Bool}{g:GV}(h:adC x=some b)(c:x.den aJ.I aJ.val=some g):g=.b b:=by
 unfold adC at h;split at h
 ·next n m=>
  cases d:IB n m iM.dec with
  |false=>rw[d]at h;simp only[cond_false]at h;exact adB h c
  |true=>
   rw[d]at h;cases h;rcases ab4 (λp j=>aJ.Dw p.1 p.2 j) d with⟨k,a,b,e,f,i⟩|⟨a,b,e,f,i⟩
   ·simp only[Nd.den,e,f,jg,dA,if_true,bD]at c;rw[<-c];simp[Ne.symm i]
   ·simp only[Nd.den,e,f,jg,zo,bD]at c;rw[<-c];simp[Ne.symm i]
 ·next n m=>
  cases d:IB n m iM.dec with
  |false=>rw[d]at h;simp only[cond_false]at h;exact adB h c
  |true=>
   rw[d]at h;cases h;rcases ab4 (λp j=>aJ.Dw p.1 p.2 j) d with⟨k,a,b,e,f,i⟩|⟨a,b,e,f,i⟩
   ·simp only[Nd.den,e,f,jg,dA,if_true,bD]at c;rw[<-c];simp[Ne.symm i]
   ·simp only[Nd.den,e,f,jg,zo,bD]at c;rw[<-c];simp[Ne.symm i]
 ·exact adB h c
 ·cases h
def oQ{x:Nd}{r:AV}(h:lV x=some r):∃n g,aJ.val n=some g/\x.den aJ.I aJ.val=some g/\∀v,g.scalar=true->GR H.ro g v->VR H r v:=by
 unfold lV at h;split at h
 ·next n f=>
  obtain⟨g,c,e⟩:=iJ f;refine⟨n,g,c,e,λv i a=>?_⟩;split at h
  ·next b d=>
   cases h;have:=aJ.Dw n b (QM d);rw[c]at this;cases this;simp only[GR]at a;simp only[VR];exact a
  ·split at h
   ·next b d=>
    cases h;have:=aBZ d e;subst this;simp only[GR]at a;simp only[VR];exact a
   ·cases h;simp only[VR];exact⟨g,c,i,a⟩
 ·cases h
def JU{a:Q4}{r:AV}(h:dB a=some r):∃v,a=some v/\∀(H:Env)(x:Value),VR H v x->VR H r x:=by
 unfold dB at h;split at h
 ·next n=>
  split at h
  ·next b f=>
   cases h;refine⟨_,rfl,λH x c=>?_⟩;have i:=aJ.Dw n b (QM f);simp only[VR]at c;obtain⟨g,d,_,e⟩:=c;rw[i]at d;cases d;simp only[GR]at e;subst e;simp only[VR]
  ·cases h
 ·exact⟨r,h,λ_ _ h=>h⟩
def nV{a:AV}{n:Nat}{v:Value}(h:jE a=some n)(e:VR H a v):∃g,aJ.val n=some g/\g.scalar=true/\GR H.ro g v:=by
 cases a<;>simp only[jE,reduceCtorEq,bD]at h
 case nd m=>subst h;simpa only[VR]using e
 case i k m=>obtain⟨g,d,c⟩:=iJ h;simp only[Nd.den,bD]at c;subst c;exact⟨_,d,rfl,by simpa only[VR,GR]using e⟩
 case b x=>obtain⟨g,d,c⟩:=iJ h;simp only[Nd.den,bD]at c;subst c;exact⟨_,d,rfl,by simpa only[VR,GR]using e⟩
 case s x=>obtain⟨g,d,c⟩:=iJ h;simp only[Nd.den,bD]at c;subst c;exact⟨_,d,rfl,by simpa only[VR,GR]using e⟩
 case iw=>obtain⟨g,d,c⟩:=iJ h;simp only[Nd.den,valsOf,iO,bD]at c;subst c;exact⟨_,d,rfl,by simp only[VR]at e;simp only[GR];exact .inl ⟨trivial,_,e⟩⟩
def XC:∀{l:Q3}{c:Q2}{vs:Q6},nodesOf l=some c->aG H l vs->∃gs,valsOf aJ.val c=some gs/\gs.all GV.scalar=true/\aV H.ro gs vs
 |[],c,vs,h,b=>by simp only[nodesOf,bD]at h;subst h;simp only[aG]at b;subst b;exact⟨[],rfl,rfl,by simp[aV]⟩
 |a::l,c,vs,h,b=>by
  simp only[nodesOf]at h;split at h
  ·next n r d e=>
   cases h;simp only[aG]at b;obtain⟨x,xs,rfl,h1,f⟩:=b;obtain⟨g,i,j,g3⟩:=nV d h1;obtain⟨gs,k,m,o⟩:=XC e f;exact⟨g::gs,by simp only[valsOf,i,k],by simp[j,m],by simp only[aV];exact⟨x,xs,rfl,g3,o⟩⟩
  ·cases h
def Nl{a:AV}{n:Nat}{v:Value}(h:GU a=some n)(d:VR H a v):∃l gs,a=.agg l/\gs.length=l.length/\aJ.val n=some (.g gs)/\gs.all GV.scalar=true/\GR H.ro (.g gs) v:=by
 unfold GU at h;split at h
 ·next l=>
  split at h
  ·next m c=>
   simp only[VR]at d;obtain⟨i,rfl,b⟩:=d;obtain⟨gs,j,e,g3⟩:=XC c b;obtain⟨g,k,f⟩:=iJ h;simp only[Nd.den,j,e,if_true,bD]at f;subst f;exact⟨l,gs,rfl,by rw[g3.length,b.length],k,e,by simp only[GR];exact⟨i,rfl,g3⟩⟩
  ·cases h
 ·cases h
def aCu{c:BinOp}{t:TypeId}{x y:Operand}{k d:IntKind}{a b:Int}{w:World}:(eqGuard c t x y (.int k a) (.int d b)).run P w=.ok () w:=by unfold eqGuard;cases c<;>rfl
def aCv{c:BinOp}{t:TypeId}{x y:Operand}{a b:ByteArray}{w:World}:(eqGuard c t x y (.string a) (.string b)).run P w=.ok () w:=by unfold eqGuard;cases c<;>rfl
def axf{c:BinOp}{t:TypeId}{k:IntKind}{a b:Int}{g:GV}(h1:c≠.shl)(d:c≠.shr)(h:dA c k a b=some g):g.scalar=true/\∃z,(binOp c t (.int k a) (.int k b)).run P w=.ok z w/\GR H.ro g z:=by
 cases c<;>simp only[dA,reduceCtorEq]at h
 all_goals first|(exact absurd rfl h1)|(exact absurd rfl d)|(cases h;done)|skip
 all_goals first
  |(cases h;refine⟨rfl,?_⟩;simp only[binOp,ne_eq,not_true_eq_false,if_false,Op.intArith,Op.intCmp,Op.intBits];exact⟨_,rfl,by simp only[GR]⟩)
  |(split at h;cases h;cases h;next e=>refine⟨rfl,?_⟩;simp only[binOp,ne_eq,not_true_eq_false,if_false,Op.intDiv,e];exact⟨_,rfl,by simp only[GR]⟩)
def ami{c:BinOp}{t:TypeId}{k e:IntKind}{a b:Int}{g:GV}(f:c=.shl\/c=.shr)(h:kX c k a b=some g):g.scalar=true/\∃z,(binOp c t (.int k a) (.int e b)).run P w=.ok z w/\GR H.ro g z:=by
 unfold kX at h;split at h
 ·cases h
 ·next d=>
  rcases f with rfl|rfl
  ·cases h;refine⟨rfl,?_⟩;simp only[binOp,Op.shift,aj d];exact⟨_,rfl,by simp only[GR]⟩
  ·cases h;refine⟨rfl,?_⟩;simp only[binOp,Op.shift,aj d];exact⟨_,rfl,by simp only[GR]⟩
def aFq{c:BinOp}{t:TypeId}{a b:Q0}{g:GV}(h:zo c a b=some g):g.scalar=true/\∃z,(binOp c t (.string ⟨⟨a⟩⟩) (.string ⟨⟨b⟩⟩)).run P w=.ok z w/\GR H.ro g z:=by
 cases c<;>simp only[zo,reduceCtorEq]at h
 all_goals first|(cases h;done)|skip
 all_goals first|(cases h;refine⟨rfl,?_⟩;simp only[binOp,Op.stringOp,toList_mk];exact⟨_,rfl,by simp only[GR]⟩)|skip
 split at h
 ·next d=>
  cases h;have:¬(((⟨⟨a⟩⟩:ByteArray).size+(⟨⟨b⟩⟩:ByteArray).size:Nat):Int)>IntKind.i64.max:=by rw[strSize,strSize];omega
  refine⟨rfl,?_⟩;simp only[binOp,Op.stringOp,aj this,afF];exact⟨_,rfl,by simp only[GR]⟩
 ·cases h
def aoC{d:BinOp}{t:TypeId}{x y:Operand}{j l g:GV}{u e:Value}(h:jg d j l=some g)(h1:GR H.ro j u)(c:GR H.ro l e):
 g.scalar=true/\∃z,(do eqGuard d t x y u e;binOp d t u e:Sem Value).run P w=.ok z w/\GR H.ro g z:=by
 unfold jg at h;split at h
 ·next k a n b=>
  simp only[GR]at h1 c;subst h1;subst c;simp only[aY,aCu,aX];split at h
  ·exact ami (.inl rfl) h
  ·exact ami (.inr rfl) h
  ·next f i=>
   split at h
   ·next m=>subst m;exact axf f i h
   ·cases h
 ·next a b=>
  simp only[GR]at h1 c;subst h1;subst c;simp only[aY,aCv,aX];exact aFq h
 ·cases h
def ahu{t:TypeId}(c:P.underlying t=some .bool)(a b:Bool):(Op.equal t (.bool a) (.bool b)).run P w=.ok (a==b) w:=by
 have d:∀n,(Op.equalIn (n+1) t (.bool a) (.bool b)).run P w=.ok (a==b) w:=λn=>by simp only[Op.equalIn,aY,bF c,aX,bQ]
 exact d 9999
def aoA{c:BinOp}{t:TypeId}{x y:Operand}{e f g:GV}{u d:Value}(i:P.underlying t=some .bool)(h:U8 c e f=some g)(h1:GR H.ro e u)(j:GR H.ro f d):
 g.scalar=true/\∃z,(do eqGuard c t x y u d;binOp c t u d:Sem Value).run P w=.ok z w/\GR H.ro g z:=by
 unfold U8 at h;split at h
 ·next a b=>
  simp only[GR]at h1 j;subst h1;subst j;split at h
  ·cases h;exact⟨rfl,_,uP (ahu i a b) rfl rfl,by simp only[GR]⟩
  ·cases h;exact⟨rfl,_,uQ (ahu i a b) rfl rfl,by simp only[GR]⟩
  ·cases h
 ·cases h
def ahv{w:World}(d:Nat):∀(fs:List Field)(k:Nat)(D:Q2)(xs p:Q6)(gs m:Q1)(r:Bool),OQ P fs k=some D->aV H.ro gs (xs.drop k)->aV H.ro m (p.drop k)->pU D gs m=some r->
 (Op.eqFields (d+1) ⟨xs⟩ ⟨p⟩ fs).run P w=.ok r w
 |[],k,D,xs,p,gs,m,r,n,_,_,c=>by
  simp only[OQ,bD]at n;subst n;cases gs with
  |cons g gs=>simp[pU]at c
  |nil=>
   cases m with
   |cons g gs=>simp[pU]at c
   |nil=>simp only[pU,bD]at c;subst c;simp[Op.eqFields]
 |f::fs,k,D,xs,p,gs,m,r,n,W,X,c=>by
  simp only[OQ]at n;split at n
  ·next Y=>
   rw[aO,yB]at Y;obtain⟨Z,ho⟩:=Y;have G:=bV ho;split at n
   ·next a t o I=>
    cases n;cases gs with
    |nil=>simp[pU]at c
    |cons g gs=>
    cases m with
    |nil=>simp[pU]at c
    |cons L m=>
    simp only[aV]at W X;obtain⟨u,us,v,s,M⟩:=W;obtain⟨u',N,x,j,O⟩:=X;have Q:xs[k]? =some u:=by rw[<-List.head?_drop,v];rfl
    have R:p[k]? =some u':=by rw[<-List.head?_drop,x];rfl
    have S:us=xs.drop (k+1):=by have:=uT (List.drop 1) v;simpa[tK]using this.symm
    have T:N=p.drop (k+1):=by have:=uT (List.drop 1) x;simpa[tK]using this.symm
    have y:qw P f.type=some false:=by unfold ada at o;unfold qw;split at o<;>first|(next h=>rw[h])|(cases o)
    have l:∀(E:Q6) z,E[k]? =some z->(part f.type ⟨E⟩ f.offset).run P w=.ok z w:=by
     intro E z hz;unfold part;simp only[aY,LK y,aX,iI,if_false];have:(⟨E⟩:QR)[f.offset]? =some z:=by rw[G];simpa using hz
     simp only[this,bQ]
    have U:(f.name ≠ "_"):=by intro e;rw[e]at Z;simp at Z
    have fin:∀b q,(Op.equalIn (d+1) f.type u u').run P w=.ok b w->pU t gs m=some q->(Op.eqFields (d+1) ⟨xs⟩ ⟨p⟩ (f::fs)).run P w=.ok (b&&q) w:=by
     intro b q hb i;have A:=ahv (w:=w) d fs (k+1) t xs p gs m q I (by rw[<-S];exact M) (by rw[<-T];exact O) i;simp only[Op.eqFields,au U,aY,l _ _ Q,l _ _ R,aX,hb];cases b with
     |true=>simpa using A
     |false=>simp
    unfold ada at o;split at o
    ·next kk B=>
     cases o;cases g<;>cases L<;>simp only[pU,reduceCtorEq]at c
     split at c
     ·next V=>
      subst V;obtain⟨q,i,rfl⟩:=bI.1 c;simp only[GR]at s j;subst s;subst j;exact fin _ _ (run_equalIn_int w d _ _ _ _ _ B) i
     ·cases c
    ·next B=>
     cases o;cases g<;>cases L<;>simp only[pU,reduceCtorEq]at c
     obtain⟨q,i,rfl⟩:=bI.1 c;simp only[GR]at s j;subst s;subst j;refine fin _ _ ?_ i;rw[run_equalIn_string w d _ _ _ B,toList_mk,toList_mk]
    ·next B=>
     cases o;cases g<;>cases L<;>simp only[pU,reduceCtorEq]at c
     obtain⟨q,i,rfl⟩:=bI.1 c;simp only[GR]at s j;subst s;subst j;exact fin _ _ (run_equalIn_bool' w d _ _ _ B) i
    ·cases o
   ·cases n
  ·cases n
def aoB{k:BinOp}{t:TypeId}{x y:Operand}{fs:Array Field}{i:Q2}{o p g:GV}{u l:Value}(q:P.underlying t=some (.struct fs))(m:P.stoodInHeld t=false)(c:P.eqGuardType P.depth t=false)(A:OQ P fs.toList 0=some i)
 (h:Nu k i o p=some g) (h1:GR H.ro o u) (j:GR H.ro p l):
 g.scalar=true/\∃z,(do eqGuard k t x y u l;binOp k t u l:Sem Value).run P w=.ok z w/\GR H.ro g z:=by
 unfold Nu at h;split at h
 ·next a b=>
  simp only[GR]at h1 j;obtain⟨s,rfl,h1⟩:=h1;obtain⟨v,rfl,j⟩:=j;have d:P.fieldsOf t=fs:=by unfold Program.fieldsOf;rw[q]
  have n:P.underlying t=some (.struct (P.fieldsOf t)):=by rw[d];exact q
  have e:∀r,pU i a b=some r->(Op.equalIn 10000 t (.agg ⟨s⟩) (.agg ⟨v⟩)).run P w=.ok r w:=by intro r f;rw[run_equalIn_agg w 9999 t _ _ n m,d];exact ahv (H:=H) 9998 fs.toList 0 i s v a b r A (by simpa using h1) (by simpa using j) f
  split at h
  ·obtain⟨r,f,rfl⟩:=bI.1 h;refine⟨rfl,.bool r,?_,by simp only[GR]⟩;simp only[aY,run_eqGuard_agg w .eql t x y _ _ c,aX,run_eql_struct,e r f]
  ·obtain⟨r,f,rfl⟩:=bI.1 h;refine⟨rfl,.bool (!r),?_,by simp only[GR]⟩;simp only[aY,run_eqGuard_agg w .neq t x y _ _ c,aX,run_neq_struct,e r f]
  ·cases h
 ·cases h
def aFx{p:BinOp}{t:TypeId}{x y:Operand}{a b v:AV}{u r:Value}(c:Yw P p t a b=some v)(f:VR H a u)(j:VR H b r):
 ∃z,(do eqGuard p t x y u r;binOp p t u r:Sem Value).run P w=.ok z w/\VR H v z:=by
 unfold Yw at c
 have B:∀{m n:Nat}{R:Nd},lV R=some v->(∀g,R.den aJ.I aJ.val=some g->g.scalar=true/\∃z,(do eqGuard p t x y u r;binOp p t u r:Sem Value).run P w=.ok z w/\GR H.ro g z)->
  ∃z,(do eqGuard p t x y u r;binOp p t u r:Sem Value).run P w=.ok z w/\VR H v z:=by
  intro m n R D Z;obtain⟨_,g,_,h2,h3⟩:=oQ (H:=H) D;obtain⟨h4,z,h5,h6⟩:=Z g h2;exact⟨z,h5,h3 z h4 h6⟩
 have E:(match jE a,jE b with|some x,some y=>lV (.bin p x y)|_,_=>none)=some v->∃z,(do eqGuard p t x y u r;binOp p t u r:Sem Value).run P w=.ok z w/\VR H v z:=by
  intro c;split at c
  ·next m n D G=>
   obtain⟨U,I,V,L⟩:=nV D f;obtain⟨W,M,X,N⟩:=nV G j;refine B (m:=m) (n:=n) c λg s=>?_;simp only[Nd.den,I,M]at s;exact aoC s L N
  ·cases c
 split at c
 ·exact E c
 ·exact E c
 ·next d=>
  split at c
  ·next m n D G=>
   obtain⟨U,I,V,L⟩:=nV D f;obtain⟨W,M,X,N⟩:=nV G j;refine B (m:=m) (n:=n) c λg s=>?_;simp only[Nd.den,I,M]at s;exact aoA d s L N
  ·cases c
 ·next fs d=>
  split at c
  ·next S=>
   rw[aO,yB,yB]at S;split at c
   ·next ks m n T D G=>
    obtain⟨l1,U,_,_,I,V,L⟩:=Nl D f;obtain⟨l2,W,_,_,M,X,N⟩:=Nl G j;refine B (m:=m) (n:=n) c λg s=>?_;simp only[Nd.den,I,M]at s;exact aoB d S.1 S.2 T s L N
   ·cases c
  ·cases c
 ·next e d=>
  have O:∀{m l:Nat}{u:Value},VR H (.rx m l) u->∃o,u=.pointer (some o):=by intro m l u h;simp only[VR]at h;obtain⟨g,bl,base,cs,Y,fr,y,_,_,_,rfl,_⟩:=h;exact⟨_,rfl⟩
  have Q:∀{id m l:Nat}{u:Value},VR H (.pv id m l) u->∃o,u=.pointer (some o):=by intro id m l u h;simp only[VR]at h;obtain⟨q,k,i,_,_,rfl⟩:=h;exact⟨_,rfl⟩
  have A:∀{u:Value},VR H .kL u->u=.pointer none:=by intro u h;simpa only[VR]using h
  split at c<;>cases c
  ·obtain⟨o,rfl⟩:=O f;have:=A j;subst this;exact⟨_,uP (H6 d _) rfl rfl,by simp only[VR]⟩
  ·obtain⟨o,rfl⟩:=O j;have:=A f;subst this;exact⟨_,uP (HY d _) rfl rfl,by simp only[VR]⟩
  ·obtain⟨o,rfl⟩:=O f;have:=A j;subst this;exact⟨_,uQ (H6 d _) rfl rfl,by simp only[VR];rfl⟩
  ·obtain⟨o,rfl⟩:=O j;have:=A f;subst this;exact⟨_,uQ (HY d _) rfl rfl,by simp only[VR];rfl⟩
  ·obtain⟨o,rfl⟩:=Q f;have:=A j;subst this;exact⟨_,uP (H6 d _) rfl rfl,by simp only[VR]⟩
  ·obtain⟨o,rfl⟩:=Q j;have:=A f;subst this;exact⟨_,uP (HY d _) rfl rfl,by simp only[VR]⟩
  ·obtain⟨o,rfl⟩:=Q f;have:=A j;subst this;exact⟨_,uQ (H6 d _) rfl rfl,by simp only[VR];rfl⟩
  ·obtain⟨o,rfl⟩:=Q j;have:=A f;subst this;exact⟨_,uQ (HY d _) rfl rfl,by simp only[VR];rfl⟩
 ·cases c
def aGd{b:UnOp}{g a:GV}{u:Value}(h:YQ b g=some a)(h1:GR H.ro g u):a.scalar=true/\∃z,(Op.unary b u).run P w=.ok z w/\GR H.ro a z:=by
 unfold YQ at h;split at h
 ·simp only[GR]at h1;subst h1;split at h
  ·cases h;exact⟨rfl,_,rfl,by simp only[GR]⟩
  ·cases h
 ·simp only[GR]at h1;subst h1;split at h
  ·cases h;exact⟨rfl,_,rfl,by simp only[GR]⟩
  ·simp only[dA,bD]at h;subst h;exact⟨rfl,_,rfl,by simp only[GR]⟩
  ·cases h
 ·cases h
def aFJ{c:UnOp}{a v:AV}{u:Value}(b:Pv c a=some v)(d:VR H a u):∃z,(Op.unary c u).run P w=.ok z w/\VR H v z:=by
 unfold Pv at b;split at b
 ·next n=>
  obtain⟨_,g,_,e,f⟩:=oQ (H:=H) b;simp only[VR]at d;obtain⟨g0,h,m,i⟩:=d;simp only[Nd.den,h]at e;obtain⟨j,z,k,l⟩:=aGd (P:=P) (w:=w) e i;exact⟨z,k,f z j l⟩
 ·cases b
def SR.swap(h:SR P H F w){id:Nat}{o o':bP}(n:F.get id=some o)(p:o'.own=o.own)(r:Live P H w id o'):SR P H (F.put id o') w:=by
 have b:∀k u,(F.put id o').get k=some u->∃c,F.get k=some c/\u.own=c.own:=by
  intro k u a;rw[aC.get_put]at a;split at a
  ·next e=>cases a;subst e;exact⟨o,n,p⟩
  ·exact⟨u,a,rfl⟩
 refine⟨h.oN,h.dom,λk u a=>?_,h.lq,λk u m c q s d f g i t x=>?_,h.jH,λk u q d f g=>?_,h.tabs⟩
 ·rw[aC.get_put]at a;split at a
  ·next e=>cases a;subst e;exact r
  ·exact h.live k u a
 ·obtain⟨v,j,l⟩:=b k u d;obtain⟨y,z,A⟩:=b m c g;exact h.sep k v m y q s j (l▸f) z i t x
 ·obtain⟨v,j,l⟩:=b k u d;exact h.ny k v q j (l▸f) g
def St.left{H':Env}{τ:aC}{w':World}(h:St P H τ w H' F' w')(a:τ.lock=F.lock)(z:τ.next=F.next)(f:∀k u,τ.get k=some u->u.own=true->∃A,F.get k=some A/\A.own=true):St P H F w H' F' w':=by
 refine⟨h.ext,h.rel,h.size,λB g i=>h.keep B g λk u q j l m n=>?_,λk u q j l m n=>?_,h.os,h.tape,h.output,h.lock.trans a,z▸h.next,z▸h.new,λb g=>?_⟩
 ·obtain⟨v,c,d⟩:=f k u j l;exact i k v q c d (a▸m) n
 ·rcases h.own k u q j l (a▸m) n with h1|⟨e,o,p,c,d,r,s,t⟩
  ·exact .inl h1
  ·obtain⟨v,x,y⟩:=f e o c d;exact .inr ⟨e,v,p,x,y,a▸r,s,t⟩
 ·rcases h.tC b g with h1|h1|⟨e,o,p,c,d,r,s,t⟩
  ·exact .inl h1
  ·exact .inr (.inl h1)
  ·obtain⟨v,x,y⟩:=f e o c d;exact .inr (.inr ⟨e,v,p,x,y,a▸r,s,t⟩)
def St.right{H':Env}{τ:aC}{w':World}(h:St P H F w H' F' w')(rel:SR P H' τ w')(c:τ.lock=F'.lock)(a:τ.next=F'.next)(d:∀k u,τ.get k=some u->u.own=true->∃b,F'.get k=some b/\b.own=true):St P H F w H' τ w':=by refine⟨h.ext,rel,h.size,h.keep,λk u q e f g i=>?_,h.os,h.tape,h.output,c.trans h.lock,by rw[a];exact h.next,by rw[a];exact h.new,h.tC⟩;obtain⟨v,j,l⟩:=d k u e f;exact h.own k v q j l g i
def bY(xs:Q1):Q3:=fB (xs.flatMap GV.cells)
def QW{xs:Q1}{sz:Nat}(h:∀x∈xs,x.cells.length=sz):(xs.flatMap GV.cells).length=xs.length*sz:=by
 induction xs with
 |nil=>simp
 |cons x xs a=>rw[kY,eP,h x aA,a (λy b=>h y (by simp[b])),iE,uK];omega
def auX{xs:Q1}{sz:Nat}(h:∀x∈xs,x.cells.length=sz)(i:Nat):(xs.flatMap GV.cells).drop (i*sz)=(xs.drop i).flatMap GV.cells:=by
 induction xs generalizing i with
 |nil=>simp
 |cons x xs b=>
  cases i with
  |zero=>simp
  |succ i=>have a:=h x aA;rw[kY,aeY,Jg (by rw[a,uK];omega),a,aZ,Zc,<-b (λy c=>h y (by simp[c]))];congr 1;rw[uK];omega
def auW{xs:Q1}{sz i:Nat}{x:GV}(h:∀x∈xs,x.cells.length=sz)(hi:xs[i]? =some x):((xs.flatMap GV.cells).drop (i*sz)).take sz=x.cells:=by
 rw[auX h];have:xs.drop i=x::xs.drop (i+1):=by obtain⟨a,rfl⟩:=gy.1 hi;exact iY a
 have b:=h x (tN hi);rw[this,kY,Ur ah,mF ah]
def Wv(l:Q1)(n:Nat):fB (l.take n)=(fB l).take n:=by rw[yS,yS,ae6]
def Wu(l:Q1)(n:Nat):fB (l.drop n)=(fB l).drop n:=by rw[yS,yS,List.map_drop]
def J5(l m:Q1):fB (l++m)=fB l++fB m:=by rw[yS,yS,yS,oJ]
def ungroup:∀(xs:Q1)(vs:Q6),aG H (bY xs) vs->(∀x∈xs,x.cells.all GV.scalar=true)->∃a,aV H.ro xs a/\eX a=vs/\∀(k:Nat) x y,xs[k]? =some x->a[k]? =some y->y.cells.size=x.cells.length
 |[],vs,h,_=>by simp only[bY,List.flatMap_nil,fB,aG]at h;subst h;exact⟨[],by simp[aV],rfl,aA⟩
 |x::xs,vs,h,f=>by
  have m:aG H (fB x.cells++bY xs) vs:=by rw[bY,kY,J5]at h;exact h
  have c:=m.take x.cells.length;have n:=m.drop x.cells.length;rw[Ur (by rw[oG];omega),mF (by rw[oG];omega)]at c;rw[Zb (by rw[oG];omega),Jg (by rw[oG];omega),aZ]at n;obtain⟨a,p,q,g3⟩:=ungroup xs _ n (λy i=>f y (by simp[i]));have j:=c.length;rw[oG]at j;have fin:∀y,GR H.ro x y->y.cells.toList=vs.take x.cells.length->∃a,aV H.ro (x::xs) a/\eX a=vs/\∀(k:Nat) e y,(x::xs)[k]? =some e->a[k]? =some y->y.cells.size=e.cells.length:=by
   intro y i d;refine⟨y::a,by simp only[aV];exact⟨y,a,rfl,i,p⟩,?_,?_⟩
   ·have:eX (y::a)=y.cells.toList++eX a:=by simp[eX]
    rw[this,d,q,Jk]
   ·intro k e r l b;cases k with
    |zero=>simp at l b;subst l;subst b;rw[j,<-d];simp
    |succ k=>exact g3 k e r (by simpa using l) (by simpa using b)
  cases x with
  |g s=>exact fin (.agg ⟨vs.take s.length⟩) (by simp only[GR];exact⟨_,rfl,(qX _ _).2 c⟩) rfl
  |_=>simp only[GV.cells,fB,aG,iE,lQ]at c j;obtain⟨u,v,t,o,rfl⟩:=c;refine fin u ((nI _ _).2 o) ?_;rw[akt (GR.sW ((nI _ _).2 o) rfl)];exact t.symm
def aV.scalars{ro:Qf}:∀{gs:Q1}{vs:Q6},aV ro gs vs->(∀v∈vs,sW v=true)->gs.all GV.scalar=true
 |[],_,_,_=>rfl
 |g::gs,vs,h,a=>by
  simp only[aV]at h;obtain⟨x,xs,rfl,h1,b⟩:=h;simp only[uH,aO];refine⟨?_,aV.scalars b λv c=>a v (by simp[c])⟩;cases g with
  |g d=>simp only[GR]at h1;obtain⟨vs,rfl,_⟩:=h1;have:=a (.agg ⟨vs⟩) aA;simp[sW]at this
  |_=>rfl
def OR.OA{q:Place}{m et:Nat}{f:Bool}(h:OR P H q w (.vec m et f)):∃xs,aJ.val m=some (.l xs)/\(∀x∈xs,x.cells.length=q.es)/\et≠0/\0<q.es/\sizeT P et=some q.es/\xs.length*q.es<=q.sz/\(∀x∈xs,x.cells.all GV.scalar=true)/\OR P H q w (.cells (bY xs) et true true):=by
 obtain⟨xs,l,b,n,o,p,s,i,t,u,j,r,z,_⟩:=h;obtain⟨A,B,D⟩:=r.room rfl;have c:∀x∈xs,x.cells.length=q.es:=by intro x E;obtain⟨k,d⟩:=PW E;obtain⟨y,G,e⟩:=i.at d;rw[e.agp];exact t y (tN G)
 have g:aG H (bY xs) (eX o):=by rw[bY,<-aa3];exact ahO ((qX _ _).1 i)
 refine⟨xs,p,c,A,B,D,j,z,l,b,n,s,{fits:=r.fits,le:=by rw[bY,oG,QW c];exact j,shut:=aA,cell:=λk a d=>?_,free:=r.free,whole:=r.whole,room:=r.room}⟩;obtain⟨v,e,I⟩:=g.at d;exact⟨v,u k v e,I⟩
def OR.YU{q:Place}{m et:Nat}(h:OR P H q w (.vec m et true)):q.es<=q.sz:=by obtain⟨c,d,a,e,f,g,i,j,k,l,n,r,o,b⟩:=h;exact b rfl
def OR.Ad{q:Place}{m et:Nat}{f:Bool}{xs:Q1}(v:f=true->q.es<=q.sz)(j:aJ.val m=some (.l xs))(d:∀x∈xs,x.cells.length=q.es)(e:∀x∈xs,x.cells.all GV.scalar=true){c:Q3}(h:OR P H q w (.cells c et true true))(z:∀vs,aG H c vs->aG H (bY xs) vs):OR P H q w (.vec m et f):=by
 obtain⟨o,g,A,B,r⟩:=h;have p:=r.fits;have D:=r.le;have l:aG H c ((o.toList.drop q.ba).take c.length):=by refine aG.of (by simp;omega) λk a b=>?_;obtain⟨x,E,j⟩:=r.cell k a b;have n:=(gy.1 b).1;exact⟨x,by rw[oh,au n,uJ];simpa using E,j⟩
 have s:=z _ l;obtain⟨G,t,I,g3⟩:=ungroup xs _ s e;have u:xs.length*q.es=c.length:=by have:=s.length;rw[bY,oG,QW d]at this;rw[this];simp;omega
 refine⟨xs,o,g,A,G,j,B,t,λy L=>?_,λk x b=>?_,ah,{fits:=r.fits,le:=aA,shut:=aA,cell:=aA,free:=r.free,whole:=r.whole,room:=r.room},e,v⟩
 ·obtain⟨k,b⟩:=PW L;have i:k<xs.length:=by rw[t.length];exact(gy.1 b).1
  rw[g3 k _ y (cO i) b];exact d _ (iZ i)
 ·rw[I,oh]at b;split at b
  ·rw[uJ]at b;simpa using b
  ·cases b
def mM(F:aC)(id:Nat)(xs:Q1)(et:TypeId):aC:=F.put id (.cells (bY xs) et true true)
def Py(h:SR P H F w){id m et:Nat}{f:Bool}{q:Place}(a:F.get id=some (.vec m et f))(b:H id=some q):∃xs,aJ.val m=some (.l xs)/\(∀x∈xs,x.cells.length=q.es)/\et≠0/\0<q.es/\sizeT P et=some q.es/\xs.length*q.es<=q.sz/\(∀x∈xs,x.cells.all GV.scalar=true)/\SR P H (mM F id xs et) w:=by obtain⟨xs,c,d,e,g,i,j,k,l⟩:=(h.at a b).OA;exact⟨xs,c,d,e,g,i,j,k,h.swap a rfl (.inl ⟨q,b,l⟩)⟩
def Gp{id:Nat}{xs:Q1}{et:TypeId}:(mM F id xs et).get id=some (.cells (bY xs) et true true):=by unfold mM;rw[aC.get_put,au rfl]
def TQ{H':Env}{w':World}{id m et:Nat}{f:Bool}{xs:Q1}(b:F.get id=some (.vec m et f))(h:St P H (mM F id xs et) w H' F' w'):St P H F w H' F' w':=by
 refine h.left rfl rfl λk u a c=>?_;unfold mM at a;rw[aC.get_put]at a;split at a
 ·next e=>subst e;exact⟨_,b,rfl⟩
 ·exact⟨u,a,c⟩
def aGj{H':Env}{w':World}{id m et:Nat}{f:Bool}{q:Place}{xs:Q1}(i:f=true->q.es<=q.sz)(j:F.get id=some (.vec m et f))(l:H id=some q)(n:aJ.val m=some (.l xs))(c:∀x∈xs,x.cells.length=q.es)(d:∀x∈xs,x.cells.all GV.scalar=true)(h:St P H F w H' (mM F id xs et) w'):St P H F w H' F w':=by
 have a:=h.ext.pl _ _ l;have g:=OR.Ad i n c d (h.rel.at Gp a) (λ_ h=>h);refine h.right ((h.rel.swap (o':=.vec m et f) Gp rfl (.inl ⟨q,a,g⟩)).sub (λk o b=>?_) (dP _)) rfl rfl (λk o b p=>?_)
 ·unfold mM;rw[aC.get_put,aC.get_put];split
  ·next e=>rw[e,j]at b;exact b
  ·exact b
 ·unfold mM;rw[aC.get_put];split
  ·exact⟨_,rfl,rfl⟩
  ·exact⟨o,b,p⟩
def Vp{m:Nat}{g:GV}(j:aJ.val m=some g):∀(n off:Nat){l:Q3},JL m off n=some l->∃r,takeN (fB g.cells) off n=some r/\∀vs,aG H r vs->aG H l vs
 |0,off,l,h=>by simp only[JL,bD]at h;subst h;exact⟨[],by simp[takeN],λ_ h=>h⟩
 |n+1,off,l,h=>by
  simp only[JL]at h;split at h
  ·next a r p q=>
   cases h;obtain⟨_,f,_,b,s⟩:=oQ (H:=H) p;simp only[Nd.den,j]at b;split at b
   ·next c k=>
    split at b
    ·next t=>
     cases b;obtain⟨u,v,y⟩:=Vp j n (off+1) q;obtain⟨z,A,L⟩:=vg v;refine⟨mG f::u,?_,?_⟩
     ·have B:off<g.cells.length:=(gy.1 k).1;have D:(fB g.cells).drop off=mG f::(fB g.cells).drop (off+1):=by
       have d:(fB g.cells)[off]? =some (mG f):=by rw[Q5,k];rfl
       obtain⟨i,E⟩:=gy.1 d;rw[iY i,E]
      unfold takeN;simp only[D,Bz,<-z,iE,A,if_true]
     ·intro vs e;simp only[aG]at e⊢;obtain⟨x,o,rfl,G,I⟩:=e;exact⟨x,o,rfl,s x t ((nI _ _).2 G),y o I⟩
    ·cases b
   ·cases b
  ·cases h
def ad6{t:TypeId}{m off:Nat}{g:GV}{v:AV}(f:aJ.val m=some g)(h:TI P t m off=some v):∃r,(match qw P t with
 |some true=>match sizeT P t with
  |some n=>(takeN (fB g.cells) off n).map .agg
  |none=>none
 |some false=>(fB g.cells)[off]?
 |none=>none)=some r/\∀y,VR H r y->VR H v y:=by
 unfold TI at h;split at h
 ·next d=>
  split at h
  ·next n j=>
   obtain⟨l,k,rfl⟩:=bI.1 h;obtain⟨r,o,a⟩:=Vp (H:=H) f n off k;rw[d,j];refine⟨.agg r,by simp[o],λy b=>?_⟩;simp only[VR]at b⊢;obtain⟨i,rfl,e⟩:=b;exact⟨i,rfl,a i e⟩
  ·cases h
 ·next d=>
  obtain⟨_,p,_,a,e⟩:=oQ (H:=H) h;simp only[Nd.den,f]at a;split at a
  ·next c q=>
   split at a
   ·next s=>
    cases a;rw[d];exact⟨mG p,by simp only;rw[Q5,q];rfl,λy b=>e y s ((nI _ _).2 b)⟩
   ·cases a
  ·cases a
 ·cases h
def aFE(h:SR P H F w){t:TypeId}{a v:AV}{x:Value}(d:YB P t F a=some v)(E:VR H a x):∃y,(Instr.loadAt t x).run P w=.ok y w/\VR H v y:=by
 unfold YB at d;split at d
 ·next m b=>
  simp only[VR]at E;obtain⟨g,V,base,cs,z,fr,u,I,L,W,rfl,X⟩:=E;obtain⟨r,l,M⟩:=ad6 (H:=H) I d;have N:VR H (.rp (mG g) b) (.pointer (some ⟨V,base+b,none⟩)):=by simp only[VR];exact⟨V,base,cs,z,fr,u,L,(nI _ _).1 W,rfl,X⟩
  have O:yK P t F (.rp (mG g) b)=some r:=by simp only[yK,N8];exact l
  obtain⟨y,s,Q⟩:=Io h O N;exact⟨y,s,M y Q⟩
 ·next id i b=>
  split at d
  ·next m et _ hg=>
   split at d
   ·next Y R=>
    split at d
    ·next e he=>
     simp only[VR]at E;obtain⟨q,k,j,Z,hj,rfl⟩:=E;obtain⟨G,I,L,W,X,s,_,_,hS⟩:=Py h hg Z;rw[R]at s;cases s;obtain⟨g,g1,o⟩:=iJ he;simp only[Nd.den,I,hj]at o;split at o
     ·next aa=>
      split at o
      ·next x S=>
       split at o
       ·next A=>
        cases o;obtain⟨r,l,M⟩:=ad6 (H:=H) g1 d;have B:=auW L S;have p:∀n f,takeN (fB g.cells) b n=some f->takeN (bY G) (j.toNat*q.es+b) n=some f:=by
         intro n f c;obtain⟨e1,e2,e3⟩:=vg c;rw[oG]at e3;have:((bY G).drop (j.toNat*q.es+b)).take n=f:=by rw[<-tK,bY,<-Wu,e1,<-B,Wv,ML,afc];congr 1;rw[A]at e3;omega
         unfold takeN;simp only[this,e2,if_true]
        have D:∀f,(fB g.cells)[b]? =some f->(bY G)[j.toNat*q.es+b]? =some f:=by
         intro f c;have T:b<q.es:=by have:=(gy.1 c).1;rw[oG,A]at this;exact this
         rw[<-B,Wv,oh,au T,Wu,uJ]at c;exact c
        have O:yK P t (mM F id G et) (.p id (j.toNat*q.es+b))=some r:=by
         simp only[yK,Gp];split at l
         ·next U=>
          rw[U];split at l
          ·next n hn=>
           rw[hn];obtain⟨f,c,rfl⟩:=bI.1 l;simp only[p n f c,iO]
          ·cases l
         ·next U=>rw[U];exact D r l
         ·cases l
        obtain⟨y,s,Q⟩:=Io hS O (x:=.pointer (some ⟨q.bl,q.ba+j.toNat*q.es+b,none⟩)) (by simp only[VR];exact⟨q,Z,by rw[kE]⟩);exact⟨y,s,M y Q⟩
       ·cases o
      ·cases o
     ·cases o
    ·cases d
   ·cases d
  ·cases d
 ·cases d
def aFA{t:TypeId}{a v:AV}{x:Value}{f:Nat}(h:Yy P t a f=some v)(d:VR H a x):∃y,(Instr.fieldAt t x f).run P w=.ok y w/\VR H v y:=by
 unfold Yy at h;split at h
 ·next e j=>
  split at h
  ·next l o=>
   split at h
   ·next n p=>
    split at h
    ·cases h
    ·next r=>
     split at h
     ·next m b=>
      cases h;simp only[VR]at d;obtain⟨g,s,base,z,c,A,u,B,D,E,rfl,G⟩:=d;refine⟨.pointer (some ⟨s,base+b+l.offset,none⟩),?_,?_⟩
      ·simp[Instr.fieldAt,bF j,o,Instr.sureAddr,fieldPlace,jP p,r,tY]
      ·simp only[VR];exact⟨g,s,base,z,c,A,u,B,D,E,by rw[kE],G⟩
     ·next id m b=>
      cases h;simp only[VR]at d;obtain⟨q,k,i,I,hi,rfl⟩:=d;refine⟨.pointer (some ⟨q.bl,q.ba+i.toNat*q.es+b+l.offset,none⟩),?_,?_⟩
      ·simp[Instr.fieldAt,bF j,o,Instr.sureAddr,fieldPlace,jP p,r,tY]
      ·simp only[VR];exact⟨q,k,i,I,hi,by rw[kE]⟩
     ·cases h
   ·cases h
  ·cases h
 ·cases h
def RN{i:Nat}{g:GV}{y:Value}(l:aJ.val i=some g)(e:GR H.ro g y):∀{c j:Nat}{k:AV},KC i c j=some k->∃(a:IntKind)(m:Int),k=.i .i64 m/\y=.int a m
 |0,j,k,h=>by cases h
 |c+1,j,k,h=>by
  unfold KC at h;have n:∀{r v},lV (.Cb i j)=some r->(∀x,VR H r x->VR H (.b v) x)->∃(a:IntKind)(m:Int),g=.i a m/\decide (m=(j:Int))=v:=by
   intro r v b d;obtain⟨_,z,A,f,q⟩:=oQ (H:=H) b;simp only[Nd.den,l]at f;cases g with
   |i a m=>simp only[bD]at f;subst f;have:=d _ (q (.bool (decide (m=(j:Int)))) rfl (by simp only[GR]));simp only[VR]at this;cases this;exact⟨a,m,rfl,rfl⟩
   |_=>cases f
  have fin:∀{r},lV (.Cb i j)=some r->(∀x,VR H r x->VR H (.b true) x)->some (AV.i .i64 (j:Int))=some k->∃(a:IntKind)(m:Int),k=.i .i64 m/\y=.int a m:=by
   intro r b d s;obtain⟨a,m,rfl,o⟩:=n b d;cases s;have o:m=(j:Int):=by simpa using o
   subst o;simp only[GR]at e;exact⟨a,_,rfl,e⟩
  split at h
  ·next b=>exact fin b (λ_ h=>h) h
  ·next b=>exact RN l e h
  ·next m b=>
   split at h
   ·next p=>
    obtain⟨v,d,t⟩:=JU p;cases d;exact fin b (λx u=>t H x u) h
   ·next p=>exact RN l e h
   ·cases h
  ·cases h
def aFB(h:SR P H F w){t:TypeId}{a i v:AV}{x y:Value}(b:YA P F t a i=some v)(d:VR H a x)(hy:VR H i y):∃z,(Instr.indexAt t x y).run P w=.ok z w/\VR H v z:=by
 unfold YA at b;split at b
 ·next e I=>
  split at b
  ·next aa ni f L=>
   obtain⟨gi,r,i2,l⟩:=nV L hy;split at b
   ·next n=>
    obtain⟨m,M,rfl⟩:=bI.1 b;obtain⟨g,N,c⟩:=iJ M;simp only[VR]at d;obtain⟨gl,O,l2,l3⟩:=d;simp only[Nd.den,O,r]at c;split at c
    ·next p k j Q R=>
     cases Q;cases R;simp only[GR]at l;subst l;split at c
     ·next B=>
      split at c
      ·next z hz=>
       split at c
       ·next S=>
        cases c;have T:Aq P t (.ro (fB p)) (.i k j)=some (.rp (mG g) 0):=by
         have:(fB p)[j.toNat]? =some (mG g):=by rw[Q5,hz];rfl
         simp only[Aq,I,yJ,f,au B,this,N8,oG,S,if_true]
        obtain⟨U,D,E⟩:=Rw (P:=P) (w:=w) T ((nI (.l p) x).1 l3) (by simp only[VR]:VR H (.i k j) (.int k j));refine⟨U,D,?_⟩;simp only[VR]at E⊢;obtain⟨bl,base,cs,s,fr,u,k1,k2,k3,k4⟩:=E;exact⟨g,bl,base,cs,s,fr,u,N,k1,(nI _ _).2 k2,k3,k4⟩
       ·cases c
      ·cases c
     ·cases c
    ·cases c
   ·next id n=>
    split at b
    ·next m et _ hg=>
     split at b
     ·next V=>
      have Kq:=bV V;subst Kq;obtain⟨m',M,rfl⟩:=bI.1 b;obtain⟨g,N,c⟩:=iJ M;simp only[VR]at d;obtain⟨p,O,d⟩:=d;simp only[Nd.den,O,r]at c;split at c
      ·next ab k j Q R=>
       cases Q;cases R;simp only[GR]at l;subst l;split at c
       ·next B=>
        cases c;rcases d with⟨q,G,W,rfl⟩|⟨_,rfl,_⟩
        ·obtain⟨_,_,_,_,_,D,_⟩:=(h.at hg G).OA;rw[f]at D;cases D;have T:Aq P t (.sl id 0 p.length none) (.i k j)=some (.p id (0+j.toNat*q.es)):=by simp only[Aq,I,yJ,f,au B]
         obtain⟨U,E,h7⟩:=Rw (P:=P) (w:=w) (x:=.slice (some ⟨q.bl,q.ba,none⟩) p.length (q.sz/q.es)) T (by simp only[VR];exact⟨q,G,by simpa using W,aA⟩) (by simp only[VR]:VR H (.i k j) (.int k j));refine⟨U,E,?_⟩;simp only[VR]at h7⊢;obtain⟨q',A,rfl⟩:=h7;rw[G]at A;cases A;exact⟨q,.i64,j,G,N,aA⟩
        ·simp at B;omega
       ·cases c
      ·cases c
     ·cases b
    ·cases b
   ·next id X len Y=>
    split at b
    ·next k Z=>
     obtain⟨kk,m,rfl,rfl⟩:=RN r l Z;have o:Aq P t (.sl id X len Y) (.i kk m)=some v:=b;exact Rw o d (by simp only[VR])
    ·cases b
   ·cases b
  ·cases b
 ·next len e I=>
  split at b
  ·next ni hi=>
   obtain⟨g,r,_,l⟩:=nV hi hy;split at b
   ·next k Z=>
    obtain⟨kk,m,rfl,rfl⟩:=RN r l Z;have o:Aq P t a (.i kk m)=some v:=b;exact Rw o d (by simp only[VR])
   ·cases b
  ·cases b
 ·cases b
def aFD{t:TypeId}{ts:Wt}{ty:TypeId}{a v:AV}{x:Value}(r:ts[0]? =some t)(j:ad5 P t a=some v)(h:VR H a x):
 ∃y,(Builtin.len_ ts ty #[x]).run P w=.ok y w/\VR H v y:=by
 have m:∀s:Q0,P.underlying t=some .string->(Builtin.len_ ts ty #[.string ⟨⟨s⟩⟩]).run P w=.ok (.int .i64 s.length) w:=λs f=>by simp[Builtin.len_,r,bF f,goInt,strSize]
 have l:∀(e:TypeId) b (n c:Nat),P.underlying t=some (.slice e)->(Builtin.len_ ts ty #[.slice b n c]).run P w=.ok (.int .i64 n) w:=λe b n c f=>by simp[Builtin.len_,r,bF f,goInt]
 unfold ad5 at j;split at j
 ·next n f=>
  obtain⟨_,g,_,d,i⟩:=oQ (H:=H) j;simp only[VR]at h;obtain⟨g0,o,u,k⟩:=h;simp only[Nd.den,o]at d;split at d
  ·next s p=>
   cases p;cases d;simp only[GR]at k;subst k;exact⟨_,m s f,i _ rfl (by simp only[GR])⟩
  ·cases d
 ·next e n f=>
  obtain⟨_,g,_,d,i⟩:=oQ (H:=H) j;simp only[VR]at h;obtain⟨g0,o,u,k⟩:=h;simp only[Nd.den,o]at d;split at d
  ·next z p=>
   cases p;cases d;simp only[GR]at k;rcases k with⟨rfl,_,rfl⟩|⟨E,A,c,G,I,rfl,_⟩
   ·exact⟨_,l e _ _ _ f,i _ rfl (by simp only[GR];rfl)⟩
   ·exact⟨_,l e _ _ _ f,i _ rfl (by simp only[GR])⟩
  ·cases d
 ·next e id n f=>
  obtain⟨_,g,_,d,i⟩:=oQ (H:=H) j;simp only[VR]at h;obtain⟨z,B,h⟩:=h;simp only[Nd.den,B,bD]at d;subst d;rcases h with⟨q,L,D,rfl⟩|⟨_,rfl,rfl⟩
  ·exact⟨_,l e _ _ _ f,i _ rfl (by simp only[GR])⟩
  ·exact⟨_,l e _ _ _ f,i _ rfl (by simp only[GR];rfl)⟩
 ·cases j
def aFC{t:TypeId}{a i v:AV}{x y:Value}(b:Yz P t a i=some v)(p:VR H a x)(q:VR H i y):∃z,(Instr.index t x y).run P w=.ok z w/\VR H v z:=by
 unfold Yz at b;split at b
 ·next r=>
  split at b
  ·next n A B h=>
   obtain⟨T,l,U,f⟩:=nV h q;obtain⟨V,D,W,u⟩:=nV B p;obtain⟨_,g,_,d,E⟩:=oQ (H:=H) b;simp only[Nd.den,D,l]at d;split at d
   ·next s k j G I=>
    cases G;cases I;simp only[GR]at f;subst f;simp only[GR]at u;subst u;split at d
    ·next L=>
     split at d
     ·next c M=>
      cases d;have N:GL P t (.s s) (.i k j)=some (.i .u8 c.toNat):=by simp only[GL,r,yJ,au L,M]
      obtain⟨z,O,Q⟩:=aby (P:=P) (w:=w) (H:=H) N (by simp only[VR]:VR H (.s s) (.string ⟨⟨s⟩⟩)) (by simp only[VR]:VR H (.i k j) (.int k j));exact⟨z,O,E z rfl ((nI _ _).2 Q)⟩
     ·cases d
    ·cases d
   ·cases d
  ·cases b
 ·next len e r=>
  split at b
  ·next A hi=>
   obtain⟨g,l,_,f⟩:=nV hi q;split at b
   ·next k R=>
    obtain⟨S,m,rfl,rfl⟩:=RN l f R;have o:GL P t a (.i S m)=some v:=b;exact aby o p (by simp only[VR])
   ·cases b
  ·cases b
 ·cases b
def afW{H:Env}{lo:Q4}{b:WD}{l:Nat}{d:Nd}{e:GV}(i:(match lo with|none=>gB d|some a=>jE a)=some l)(f:nJ H lo b)(j:aJ.val l=some e):
 (lo=none/\b=none/\d.den aJ.I aJ.val=some e)\/(∃v,b=some v/\GR H.ro e v):=by
 cases lo with
 |none=>
  obtain⟨g,c,k⟩:=iJ i;rw[j]at c;cases c;refine .inl ⟨rfl,?_,k⟩;cases b with
  |none=>rfl
  |some v=>simp[nJ]at f
 |some a=>
  cases b with
  |none=>simp[nJ]at f
  |some v=>
   have h:VR H a v:=by simpa[nJ]using f
   obtain⟨g,c,_,m⟩:=nV i h;rw[j]at c;cases c;exact .inr ⟨v,rfl,m⟩
def ad7{lo hi:Q4}{f g:WD}{l h:Nat}{d:Nd}{k m:IntKind}{j c:Int}{len:Nat}(n:Qp lo=some l)(o:U9 d hi=some h)(h1:nJ H lo f)(s:nJ H hi g)
 (t:aJ.val l=some (.i k j)) (u:aJ.val h=some (.i m c)) (x:d.den aJ.I aJ.val=some (.i m c)->c=len) (h0:0<=j) (y:j<=c) (z:c<=len):
 ∃a b:Q4,nJ H a f/\nJ H b g/\zM len (λh=>Nat.ble h len) a b=some (j.toNat,c.toNat):=by
 have p:=afW (d:=.ci .i64 0) (by cases lo<;>exact n) h1 t;have q:=afW (d:=d) (by cases hi<;>exact o) s u;have i:Nat.ble c.toNat len=true:=afe ah;have A:∃b:Q4,nJ H b g/\Df len (λh=>Nat.ble h len) b=some c.toNat:=by
  rcases q with⟨_,r,e⟩|⟨v,rfl,e⟩
  ·refine⟨none,by rw[r];simp[nJ],?_⟩;simp only[Df];rw[x e];simp
  ·simp only[GR]at e;subst e;exact⟨some (.i m c),by simp[nJ,VR],by simp only[Df,yJ];rw[au ⟨ah,i⟩]⟩
 have B:∃a:Q4,nJ H a f/\Nj c.toNat a=some j.toNat:=by
  rcases p with⟨_,r,e⟩|⟨v,rfl,e⟩
  ·refine⟨none,by rw[r];simp[nJ],?_⟩;simp only[Nd.den,bD,GV.i.injEq]at e;simp only[Nj];rw[<-e.2];rfl
  ·simp only[GR]at e;subst e;exact⟨some (.i k j),by simp[nJ,VR],by simp only[Nj,yJ];rw[au ⟨h0,ah⟩]⟩
 obtain⟨b,D,E⟩:=A;obtain⟨a,G,I⟩:=B;exact⟨a,b,G,D,by simp only[zM,E,I]⟩
def amK(h:SR P H F w){t:TypeId}{a v:AV}{x:Value}{lo hi:Q4}{o p:WD}(b:TJ P t a lo hi=some v)(I:VR H a x)(q:nJ H lo o)(r:nJ H hi p):
 ∃y,(Instr.sliceAt t x o p none).run P w=.ok y w/\VR H v y:=by
 unfold TJ at b;split at b
 ·next L=>
  split at b
  ·next n hn=>
   split at b
   ·next l hh M N=>
    obtain⟨gs,u,s2,E⟩:=nV hn I;obtain⟨_,g,_,c,O⟩:=oQ (H:=H) b;simp only[Nd.den,u]at c;split at c
    ·next s k G k' d Q R S=>
     cases Q;split at c
     ·next A=>
      cases c;simp only[GR]at E;subst E;obtain⟨j,m,T,U,V⟩:=ad7 (len:=s.length) M N q r R S (λB=>by simp only[Nd.den,u,bD,GV.i.injEq]at B;exact B.2.symm) A.1 A.2.1 A.2.2;have W:Di P t F (.s s) j m=some (.s ((s.take d.toNat).drop G.toNat)):=by simp only[Di,L,V,iO]
      obtain⟨z,X,Y⟩:=Ym h W (by simp only[VR]:VR H (.s s) (.string ⟨⟨s⟩⟩)) T U;exact⟨z,X,O z rfl ((nI _ _).2 Y)⟩
     ·cases c
    ·cases c
   ·cases b
  ·cases b
 ·next e L=>
  split at b
  ·next n D Z=>
   split at b
   ·next l hh M N=>
    simp only[VR]at I;obtain⟨gs,u,s2,E⟩:=I;obtain⟨_,g,_,c,O⟩:=oQ (H:=H) b;simp only[Nd.den,u]at c;split at c
    ·next f k G k' d Q R S=>
     cases Q;split at c
     ·next A=>
      cases c;obtain⟨c1,c2,c3,c4⟩:=A;obtain⟨j,m,T,U,V⟩:=ad7 (len:=f.length) M N q r R S (λB=>by simp only[Nd.den,u,bD,GV.i.injEq]at B;exact B.2.symm) c1 c2 c3;have W:Di P t F (.ro (fB f)) j m=some (.ro (fB ((f.take d.toNat).drop G.toNat))):=by
       simp only[Di,L,Z,oG,V,BA];unfold UU;split
       ·next e=>
        have:(f.take d.toNat).drop G.toNat=[]:=Jg (by simp;omega);rw[this];rfl
       ·next e=>
        have i:0<f.length:=ah;have h0:(fB f)[0]? =some (mG f[0]):=by rw[Q5,cO i];rfl
        rw[h0];simp only;have aa:(mG f[0]).cells.length=D:=by rw[N8,oG];rw[List.all_eq_true]at c4;exact bV (c4 _ (iZ i))
        rw[au aa,Wu,Wv]
      obtain⟨z,X,Y⟩:=Ym h W ((nI (.l f) x).1 E) T U;exact⟨z,X,O z rfl ((nI _ _).2 (by simpa only[mG]using Y))⟩
     ·cases c
    ·cases c
   ·cases b
  ·cases b
 ·cases b
def aAU{cs vs r:Q1}{off:Nat}(h:putCells cs off vs=some r):off+vs.length<=cs.length/\r=cs.take off++vs++cs.drop (off+vs.length):=by
 unfold putCells at h;split at h
 ·next a=>cases h;exact⟨a,rfl⟩
 ·cases h
def GV.aAZ{x y:GV}{off:Nat}{vs:Q1}(h:x.put off vs=some y)(c:vs.all GV.scalar=true)(e:x.cells.all GV.scalar=true):off+vs.length<=x.cells.length/\y.cells=x.cells.take off++vs++x.cells.drop (off+vs.length)/\y.cells.length=x.cells.length/\y.cells.all GV.scalar=true:=by
 have fin:∀r:Q1,off+vs.length<=x.cells.length->r=x.cells.take off++vs++x.cells.drop (off+vs.length)->r.length=x.cells.length/\r.all GV.scalar=true:=by intro r f d;subst d;refine⟨by simp;omega,?_⟩;rw[aeS,aeS,c];rw[List.all_eq_true]at e;simp only[Ug,aO,List.all_eq_true];exact⟨λa j=>e a (MQ j),λa j=>e a (MO j)⟩
 have one:∀v,off=0->vs=[v]->x.cells.length=1->y=v->off+vs.length<=x.cells.length/\y.cells=x.cells.take off++vs++x.cells.drop (off+vs.length)/\y.cells.length=x.cells.length/\y.cells.all GV.scalar=true:=by intro v p q k t;subst p;subst q;subst t;simp only[uH,aeT,Ug]at c;have m:y.cells=[y]:=GV.LM c;refine⟨by simp[k],?_,by rw[m,k];rfl,by rw[m];simp[c]⟩;rw[m,Jg (by rw[k];simp)];simp
 unfold GV.put at h;split at h
 ·next o=>
  obtain⟨r,u,rfl⟩:=bI.1 h;obtain⟨f,d⟩:=aAU u;obtain⟨z,A⟩:=fin r f d;exact⟨f,d,z,A⟩
 ·next n=>
  have B:x.cells.length=1:=by
   cases x with
   |g o=>exact absurd rfl (n o)
   |_=>rfl
  split at h
  ·next v=>cases h;exact one y rfl rfl B rfl
  ·cases h
def ahQ{y:GV}{vs:Q1}{off sz:Nat}:∀{xs:Q1}{i:Nat}{x:GV},(∀z∈xs,z.cells.length=sz)->xs[i]? =some x->off+vs.length<=sz->y.cells=x.cells.take off++vs++x.cells.drop (off+vs.length)->
 (xs.set i y).flatMap GV.cells=(xs.flatMap GV.cells).take (i*sz+off)++vs++(xs.flatMap GV.cells).drop (i*sz+off+vs.length)
 |[],i,x,_,hi,_,_=>by simp at hi
 |z::xs,0,x,c,hi,a,d=>by simp only[mD,bD]at hi;subst hi;have f:=c z aA;rw[List.set_cons_zero,kY,kY,d];rw[Ur ah,Zb ah];simp[List.append_assoc]
 |z::xs,i+1,x,c,hi,a,d=>by
  have f:=c z aA;have g:=ahQ (i:=i) (λu h=>c u (zG _ h)) (by simpa using hi) a d;rw[List.set_cons_succ,kY,kY,g];have j:∀(b:Q1) k,(z.cells++b).take (z.cells.length+k)=z.cells++b.take k:=λF k=>by rw[List.take_append,mF ah,Zl]
  have l:∀(b:Q1) k,(z.cells++b).drop (z.cells.length+k)=b.drop k:=λF k=>by rw[aeY,Jg ah,aZ,Zl]
  have e:(i+1)*sz+off=z.cells.length+(i*sz+off):=by rw[f,uK];omega
  rw[e,j,kE z.cells.length,l];simp[List.append_assoc]
def ab7:∀{l:Q3}{b:Q2},nodesOf l=some b->l.all AV.qp=true
 |[],_,_=>rfl
 |a::l,b,h=>by
  simp only[nodesOf]at h;split at h
  ·next n r c d=>
   simp only[uH,aO];exact⟨by cases a<;>simp[jE]at c<;>rfl,ab7 d⟩
  ·cases h
def aG.split{l m:Q3}:∀{vs:Q6},aG H (l++m) vs->∃a b,vs=a++b/\aG H l a/\aG H m b:=by
 intro vs h;have c:=h.length;rw[eP]at c;refine⟨vs.take l.length,vs.drop l.length,(Jk _ _).symm,?_,?_⟩
 ·have:=h.take l.length;rwa [Ur ah,mF ah]at this
 ·have:=h.drop l.length;rwa [Zb ah,Jg ah,aZ]at this
def aFI(h:SR P H F w){t:TypeId}{a v:AV}{x y:Value}(d:YG P t F a v=some F')(n:VR H a x)(O:VR H v y):
 ∃w',(Instr.storeAt t x y).run P w=.ok () w'/\St P H F w H F' w':=by
 unfold YG at d;split at d
 ·next id i b=>
  split at d
  ·next m r f Q=>
   split at d
   ·next hc=>
    obtain⟨R,S⟩:=hc;split at d
    ·next ag vs T s=>
     split at d
     ·next m' U=>
      cases d;simp only[VR]at n;obtain⟨q,k,j,B,hj,rfl⟩:=n;obtain⟨c,h1,V,h3,h4,h5,h6,D,hS⟩:=Py h Q B;rw[T]at h5;cases h5;obtain⟨W,g1,g2,g3⟩:=XC s (BL O);obtain⟨g,k1,p⟩:=iJ U;simp only[Nd.den,h1,hj,g1]at p;split at p
      ·next ai=>
       split at p
       ·next u X=>
        split at p
        ·next Fb=>
         obtain⟨z,hz,rfl⟩:=bI.1 p;obtain⟨p1,p2,p3,p4⟩:=GV.aAZ hz g2 (D u (tN X));have Y:=ahQ V X ah p2;have E:v.cells.length=W.length:=by rw[g3.length,(BL O).length]
         have Z:j.toNat<c.length:=(gy.1 X).1;have aa:(bY c).length=c.length*q.es:=by rw[bY,oG,QW V]
         have ab:j.toNat*q.es+b+v.cells.length<=(bY c).length:=by rw[aa,E];have:(j.toNat+1)*q.es<=c.length*q.es:=wC _ Z;rw[uK]at this;omega
         have G:CP (bY c) (j.toNat*q.es+b) v.cells=some ((bY c).take (j.toNat*q.es+b)++v.cells++(bY c).drop (j.toNat*q.es+b+v.cells.length)):=by unfold CP;rw[au ab]
         have ac:GN P t (mM F id c r) (.p id (j.toNat*q.es+b)) v=some ((mM F id c r).put id (.cells ((bY c).take (j.toNat*q.es+b)++v.cells++(bY c).drop (j.toNat*q.es+b+v.cells.length)) r true true)):=by simp only[GN,Gp];rw[au ⟨R,S,ab7 s⟩,G];rfl
         obtain⟨w',I,l⟩:=Yu hS ac (x:=.pointer (some ⟨q.bl,q.ba+j.toNat*q.es+b,none⟩)) (by simp only[VR];exact⟨q,B,by rw[kE]⟩) O;refine⟨w',I,(TQ Q l).right ?_ rfl rfl ?_⟩
         ·have ad:=l.rel.at (id:=id) (q:=q) (by rw[aC.get_put,au rfl]) B;have L:OR P H q w' (.vec m' r f):=by
           refine OR.Ad (λe=>by subst e;exact(h.at Q B).YU) k1 ?_ ?_ ad ?_
           ·intro x n;rcases ae9 n with n|rfl
            ·exact V x n
            ·rw[p3,Fb]
           ·intro x n;rcases ae9 n with n|rfl
            ·exact D x n
            ·exact p4
           ·intro us ae;have e1:bY (c.set j.toNat z)=(bY c).take (j.toNat*q.es+b)++fB W++(bY c).drop (j.toNat*q.es+b+W.length):=by unfold bY;rw[Y,J5,J5,Wv,Wu]
            rw[e1,<-E];obtain⟨u1,u2,rfl,q1,q2⟩:=aG.split ae;obtain⟨u3,u4,rfl,q3,q4⟩:=aG.split q1;obtain⟨ak,M,_,af⟩:=XC s q4;rw[g1]at M;cases M;exact(q3.append ((qX _ _).1 af)).append q2
          have N:=aC.get_put (mM F id c r) id id (.cells ((bY c).take (j.toNat*q.es+b)++v.cells++(bY c).drop (j.toNat*q.es+b+v.cells.length)) r true true);rw[au rfl]at N;have:=l.rel.swap (o':=.vec m' r f) N rfl (.inl ⟨q,B,L⟩);refine this.sub (λal o A=>?_) (dP _);unfold mM;rw[aC.get_put]at A⊢;split at A
          ·next e=>rw[au e];exact A
          ·next e=>rw[aj e,aC.get_put,aj e,aC.get_put,aj e];exact A
         ·intro k' u' hk A;rw[aC.get_put]at hk⊢;split at hk
          ·next e=>rw[au e];exact⟨_,rfl,rfl⟩
          ·next e=>
           rw[aj e];unfold mM;rw[aC.get_put,aj e];exact⟨u',hk,A⟩
        ·cases p
       ·cases p
      ·cases p
     ·cases d
    ·cases d
   ·cases d
  ·cases d
 ·cases d
def Env.ghost(H:Env)(id:Nat):Env:=⟨H.pl,H.ro,λk=>Nat.beq k id ||H.gh k⟩
def St.ghost(h:SR P H F w){τ:aC}{m et:Nat}{f:Bool}(A:aJ.val m=some (.l []))(B:τ.lock=F.lock)(D:τ.next=F.next)(l:∀k o,τ.get k=some o->F.get k=some o):
 St P H F w (H.ghost F.next) (τ.new (.vec m et f)) w:=by
 have c:H.le (H.ghost F.next):=⟨λ_ _ h=>h,λ_ _ h=>h,λid n=>by simp[Env.ghost,n]⟩
 have get:∀k o,(τ.new (.vec m et f)).get k=some o->(k=F.next/\o=.vec m et f)\/(k≠F.next/\F.get k=some o):=by
  intro k o t;rw[aC.rD,D]at t;split at t
  ·next e=>cases t;exact .inl ⟨e,rfl⟩
  ·next e=>exact .inr ⟨e,l k o t⟩
 have pl:∀k,(H.ghost F.next) k=H k:=λ_=>rfl;have b:∀k q,k=F.next->H k=some q->False:=λk q e d=>by have:=h.dom k q d;omega
 refine⟨c,⟨h.oN,λid q d=>?_,λid o E=>?_,λid n=>?_,λid o g v q x r s j u y z=>?_,h.jH,λid o q r s j=>?_,λp G=>(h.tabs p G).mono c⟩,dP _,λ_ _ _=>rfl,λid o q r s j u=>?_,rfl,rfl,rfl,B,?_,?_,λ_ h=>.inl h⟩
 ·have:=h.dom id q d;show id<τ.next+1;omega
 ·rcases get id o E with⟨rfl,rfl⟩|⟨_,i⟩
  ·exact .inr ⟨by simp[Env.ghost],m,et,f,rfl,A⟩
  ·exact(h.live id o i).mono c
 ·have a:(Nat.beq id F.next ||H.gh id)=true:=n;rw[qF]at a;rcases a with a|a
  ·have e:=bV a;subst e;refine⟨?_,by show F.next<τ.next+1;omega⟩;rw[pl];cases d:H F.next with
   |none=>rfl
   |some q=>exact absurd (h.dom _ q d) ah
  ·have:=h.lq id a;exact⟨this.1,by show id<τ.next+1;omega⟩
 ·rcases get id o r with⟨e,_⟩|⟨_,i⟩
  ·exact(b id q e y).elim
  ·rcases get g v j with⟨e,_⟩|⟨_,I⟩
   ·exact(b g x e z).elim
   ·exact h.sep id o g v q x i s I u y z
 ·rcases get id o r with⟨e,_⟩|⟨_,i⟩
  ·exact(b id q e j).elim
  ·exact h.ny id o q i s j
 ·rcases get id o r with⟨e,_⟩|⟨_,i⟩
  ·exact(b id q e u).elim
  ·exact .inr ⟨id,o,q,i,s,j,u,rfl⟩
 ·show F.next<=τ.next+1;omega
 ·rintro id (⟨q,d⟩|n)
  ·exact .inl (.inl ⟨q,d⟩)
  ·have a:(Nat.beq id F.next ||H.gh id)=true:=n;rw[qF]at a;rcases a with a|a
   ·have e:=bV a;right;show F.next<=id/\id<τ.next+1;omega
   ·exact .inl (.inr a)
def AZ:∀(f:Nat){m n:Nat}{xs p:Q1},yj f m n=true->aJ.val m=some (.l xs)->aJ.val n=some (.l p)->xs.length=p.length
 |0,m,n,xs,p,h,h1,d=>by have:=bV h;subst this;rw[h1]at d;cases d;rfl
 |f+1,m,n,xs,p,h,h1,d=>by
  simp only[yj,qF]at h;rcases h with h|h
  ·have:=bV h;subst this;rw[h1]at d;cases d;rfl
  ·split at h
   ·next z o a i v q=>
    obtain⟨g,l,c⟩:=aJ.uq m _ q aA;rw[h1]at l;cases l;simp only[Nd.den]at c;split at c
    ·next s k j x r t A=>
     split at c
     ·split at c
      ·split at c
       ·obtain⟨y,_,e⟩:=bI.1 c;cases e;rw[Ji];exact AZ f h r d
       ·cases c
      ·cases c
     ·cases c
    ·cases c
   ·next a b q=>
    obtain⟨g,l,c⟩:=aJ.uq m _ q aA;rw[h1]at l;cases l;simp only[Nd.den]at c;split at c
    ·next s B r t=>
     split at c
     ·next u=>cases c;rw[u];exact AZ f h r d
     ·cases c
    ·cases c
   ·cases h
def aEo:∀(f:Nat){m n:Nat}{g:GV}{k:Q1},yj f m n=true->aJ.val m=some g->aJ.val n=some (.l k)->∃xs,g=.l xs
 |0,m,n,g,k,h,h1,d=>by have:=bV h;subst this;rw[h1]at d;cases d;exact⟨_,rfl⟩
 |f+1,m,n,g,k,h,h1,d=>by
  simp only[yj,qF]at h;rcases h with h|h
  ·have:=bV h;subst this;rw[h1]at d;cases d;exact⟨_,rfl⟩
  ·split at h
   ·next z o a i q l=>
    obtain⟨p,j,c⟩:=aJ.uq m _ l aA;rw[h1]at j;cases j;simp only[Nd.den]at c;split at c
    ·split at c
     ·split at c
      ·split at c
       ·obtain⟨y,_,e⟩:=bI.1 c;exact⟨_,e.symm⟩
       ·cases c
      ·cases c
     ·cases c
    ·cases c
   ·next a b l=>
    obtain⟨p,j,c⟩:=aJ.uq m _ l aA;rw[h1]at j;cases j;simp only[Nd.den]at c;split at c
    ·split at c
     ·cases c;exact⟨_,rfl⟩
     ·cases c
    ·cases c
   ·cases h
def Hy{agg:Bool}{size:Nat}(h1:agg=false->size=1):∀(n:Nat){cs:Q3}{f:Q2}{vs:Q6},elemsOf agg size n cs=some f->aG H cs vs->cs.length=n*size->
 ∃gs,valsOf aJ.val f=some gs/\gs.length=n/\aG H (bY gs) vs/\cs.all AV.qp=true/\∀x∈gs,x.cells.length=size/\x.cells.all GV.scalar=true
 |0,cs,f,vs,h,e,k=>by simp only[elemsOf,bD]at h;subst h;have:cs=[]:=kP (by simpa using k);subst this;exact⟨[],rfl,rfl,by simpa[bY,fB]using e,rfl,aA⟩
 |n+1,cs,f,vs,h,e,k=>by
  simp only[elemsOf]at h;rw[uK,Jo]at k;split at h
  ·next a r b D=>
   cases h;obtain⟨gs,u,v,y,z,A⟩:=Hy h1 n D (e.drop size) (by simp;omega);have o:cs=cs.take size++cs.drop size:=(Jk _ _).symm;have p:vs=vs.take size++vs.drop size:=(Jk _ _).symm;cases agg with
   |true=>
    simp only[if_true]at b;have i:VR H (.agg (cs.take size)) (.agg ⟨vs.take size⟩):=by simp only[VR];exact⟨_,rfl,e.take size⟩
    obtain⟨l,m,q,j,s,E,B⟩:=Nl b i;cases q;refine⟨.g m::gs,by simp only[valsOf,s,u],by simp[v],?_,?_,?_⟩
    ·have:bY (.g m::gs)=fB m++bY gs:=by unfold bY;rw[kY,J5];rfl
     rw[this,p];refine aG.append ?_ y;simp only[GR]at B;obtain⟨M,G,I⟩:=B;cases G;exact(qX _ _).1 I
    ·rw[o,aeS,aO];refine⟨?_,z⟩;unfold GU at b;simp only at b;split at b
     ·next f t=>exact ab7 t
     ·cases b
    ·intro x d;rcases bH.1 d with rfl|d
     ·exact⟨by show m.length=size;rw[j,mQ];omega,E⟩
     ·exact A x d
   |false=>
    have:=h1 rfl;subst this;simp only[iI,if_false]at b;cases cs with
    |nil=>simp at k
    |cons c cs=>
     simp only[Ze,BA]at b;simp only[aG]at e;obtain⟨x,N,rfl,d,L⟩:=e;obtain⟨g,q,j,s⟩:=nV b d;refine⟨g::gs,by simp only[valsOf,q,u],by simp[v],?_,?_,?_⟩
     ·have:bY (g::gs)=fB g.cells++bY gs:=by unfold bY;rw[kY,J5]
      rw[this,GV.LM j];simp only[fB,bG,aZ];exact aG.cons ((nI _ _).1 s) (by simpa using y)
     ·simp only[uH,aO];exact⟨by cases c<;>simp[jE]at b<;>rfl,by simpa using z⟩
     ·intro x d;rcases bH.1 d with rfl|d
      ·rw[GV.LM j];exact⟨rfl,by simp[j]⟩
      ·exact A x d
  ·cases h
def axW(h:SR P H F w){e:TypeId}{x:AV}{b size:Nat}{u:Value}{Q e':TypeId}{xs:Q1}(d:listOf P F e x=some b)(i:VR H x u)(ht:P.underlying Q=some (.slice e'))(Z:sizeT P e=some size)(v:aJ.val b=some (.l xs))(hs:xs.all (GV.gV size)=true):
 ∃y,Src P size Q u xs.length y w/\aG H (bY xs) y:=by
 have A:Ik P Q=true:=by unfold Ik;rw[ht]
 have B:∀z∈xs,z.cells.length=size/\z.cells.all GV.scalar=true:=by intro z D;rw[List.all_eq_true]at hs;have:=hs z D;unfold GV.gV at this;rw[aO]at this;exact⟨Nat.eq_of_beq_eq_true this.1,this.2⟩
 have k:(bY xs).all AV.qp=true:=by unfold bY;refine aa4 ?_;rw[List.all_eq_true];intro g s;obtain⟨z,D,R⟩:=ae8.1 s;exact List.all_eq_true.1 (B z D).2 g R
 unfold listOf at d;split at d
 ·next n=>
  cases d;simp only[VR]at i;obtain⟨g,h1,S,h3⟩:=i;rw[v]at h1;cases h1;have f:Bc F size (.ro (fB xs))=some (xs.length,bY xs):=by simp only[Bc];rw[au,oG,aa3];rfl;rw[List.all_eq_true];intro a T;rw[yS]at T;obtain⟨z,D,rfl⟩:=rZ.1 T;rw[N8,oG,(B z D).1];simp
  exact src_ok h A f ((nI (.l xs) u).1 h3) k
 ·obtain⟨g,h1,S⟩:=iJ d;rw[v]at h1;cases h1;simp only[Nd.den,valsOf,iO,bD,GV.l.injEq]at S;subst S;exact src_ok h A (size:=size) (n:=0) (l:=[]) rfl i rfl
 ·next id n=>
  split at d
  ·next m et _ s=>
   split at d
   ·next t=>
    cases d;rw[aO]at t;simp only[VR]at i;obtain⟨y,h1,i⟩:=i;have o:=AZ 100 t.2 v h1;rcases i with⟨q,E,j,rfl⟩|⟨_,rfl,rfl⟩
    ·obtain⟨ab,G,U,k3,k4,k5,k6,_,hS⟩:=Py h s E;rw[v]at G;cases G;have e:=bV t.1;subst e;rw[Z]at k5;cases k5;have f:Bc (mM F id xs e) q.es (.sl id 0 xs.length none)=some (xs.length,bY xs):=by
      simp only[Bc,Gp];have:takeN (bY xs) 0 (xs.length*q.es)=some (bY xs):=by
       have d:(bY xs).length=xs.length*q.es:=by rw[bY,oG,QW U]
       unfold takeN;rw[dY,mF ah,au d]
      rw[this];rfl
     rw[<-o]at j⊢;exact src_ok hS A f (by simp only[VR];exact⟨q,E,by simpa using j,aA⟩) k
    ·have:xs=[]:=kP (by simpa using o);subst this;exact src_ok h A (a:=.iw) (size:=size) (n:=0) (l:=[]) rfl (by simp only[VR]) rfl
   ·cases d
  ·cases d
 ·next id V len W=>
  split at d
  ·next c et xu ac X Y s I T=>
   rw[Z]at I;cases I;split at d
   ·next t=>
    rw[aO,qF,aO]at t;split at d
    ·next cs r=>
     split at d
     ·next ns L=>
      have p:Y=false->size=1:=by
       intro e;subst e;rcases t.2 with h1|h1
       ·simp at h1
       ·exact bV h1
      obtain⟨g,g1,g2⟩:=iJ d;rw[v]at g1;cases g1;simp only[VR]at i;obtain⟨q,E,j,rfl⟩:=i;obtain⟨q',M,ws,aa,fr,hb,rr⟩:=h.obj _ _ s rfl;rw[E]at M;cases M;have N:=(vg r).2.1;obtain⟨gs,G,U,k3,k4,_⟩:=Hy (H:=H) p len L (rr.Bd r) N;simp only[Nd.den,G,iO,bD,GV.l.injEq]at g2;subst g2;obtain⟨y,j1,j2⟩:=src_ok h A (size:=size) (n:=len) (l:=cs) (a:=.sl id V len W) (by simp only[Bc,s,r,iO]) (by simp only[VR];exact⟨q,E,j,rfl⟩) k4;obtain⟨ad,O,ae,WX,_⟩:=Hy (H:=H) p len L j2 N;rw[G]at O;cases O;rw[U];exact⟨y,j1,WX⟩
     ·cases d
    ·cases d
   ·cases d
  ·cases d
 ·cases d
def af4(s:Q0):bY (dJ s)=yO s:=by
 unfold bY dJ yO;induction s with
 |nil=>rfl
 |cons c s a=>simp only[jc,kY,GV.cells,bG,aZ,fB,mG,a]
