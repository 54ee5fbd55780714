/- Values that are named by nodes: numbers, texts, truth values, parts of what nobody changes. -/
import Derived.Test.YtkoclengoeonnaaGreatDoorAbsC
import Derived.Laws.StructEq
set_option linter.all false
namespace Go.aP
noncomputable section
variable[aJ]
variable{P:Program}{F:Env}{J J':aC}{w:World}
mutual
def kT:GV->AV
 |.b x=>.b x
 |.i k n=>.i k n
 |.s x=>.s x
 |.g cs=>.agg (dO cs)
 |.l xs=>.ro (dO xs)
def dO:Q1->List AV
 |[]=>[]
 |a::l=>kT a::dO l
end
def xq:∀l:Q1,dO l=l.map kT
 |[]=>rfl
 |a::l=>by simp[dO,xq l]
def lV(l:Q1):(dO l).length=l.length:=by rw[xq];simp
def Pn(l:Q1)(k:Nat):(dO l)[k]? =(l[k]?).map kT:=by rw[xq];simp
mutual
def lD:∀(g:GV)(v:Value),GR F.ro g v↔VR F (kT g) v
 |.b _,_=>by simp only[GR,VR,kT]
 |.i _ _,_=>by simp only[GR,VR,kT]
 |.s _,_=>by simp only[GR,VR,kT]
 |.g cs,v=>by
  simp only[GR,VR,kT];constructor
  ·rintro⟨vs,e,h⟩;exact⟨vs,e,(oP cs vs).1 h⟩
  ·rintro⟨vs,e,h⟩;exact⟨vs,e,(oP cs vs).2 h⟩
 |.l xs,v=>by
  simp only[GR,VR,kT,lV];have f:dO xs=[]↔xs=[]:=by cases xs<;>simp[dO]
  rw[f];constructor
  ·rintro(h|⟨i,a,c,d,j,e,k,h,l,m⟩)
   ·exact .inl h
   ·exact .inr ⟨i,a,c,d,j,e,k,(oP xs d).1 h,l,λb=>m (λe=>b (f.2 e))⟩
  ·rintro(h|⟨i,a,c,d,j,e,k,h,l,m⟩)
   ·exact .inl h
   ·exact .inr ⟨i,a,c,d,j,e,k,(oP xs d).2 h,l,λb=>m (λe=>b (f.1 e))⟩
def oP:∀(l:Q1)(vs:Q6),aS F.ro l vs↔aG F (dO l) vs
 |[],_=>by simp only[aS,aG,dO]
 |a::l,vs=>by
  simp only[aS,aG,dO];constructor
  ·rintro⟨x,xs,e,h1,b⟩;exact⟨x,xs,e,(lD a x).1 h1,(oP l xs).1 b⟩
  ·rintro⟨x,xs,e,h1,b⟩;exact⟨x,xs,e,(lD a x).2 h1,(oP l xs).2 b⟩
end
def LU(g:GV):(kT g).cells=dO g.cells:=by cases g<;>simp[kT,dO,AV.cells,GV.cells]
def Zb:∀l:Q1,(dO l).flatMap AV.cells=dO (l.flatMap GV.cells)
 |[]=>rfl
 |a::l=>by simp only[dO,jS,Zb l,LU];rw[xq,xq,xq,ng]
def GR.cells{g:GV}{v:Value}(h:GR F.ro g v):aG F (dO g.cells) v.cells.toList:=by rw[<-LU];exact zV ((lD g v).1 h)
def GR.aex{g:GV}{v:Value}(h:GR F.ro g v):g.cells.length=v.cells.size:=by have:=h.cells.length;rw[lV]at this;simpa using this
def GV.JJ{g:GV}(h:g.scalar=true):g.cells=[g]:=by cases g<;>first|rfl|(cases h)
def arW{g:GV}(h:g.scalar=true):(kT g).nT=true:=by cases g<;>first|rfl|(cases h)
def Zc:∀{l:Q1},l.all GV.scalar=true->(dO l).all AV.nT=true
 |[],_=>rfl
 |a::l,h=>by simp only[qJ,aO]at h;simp only[dO,qJ,aO];exact⟨arW h.1,Zc h.2⟩
def aS.length{ro:Qf}:∀{l:Q1}{vs:Q6},aS ro l vs->l.length=vs.length
 |[],vs,h=>by simp only[aS]at h;subst h;rfl
 |a::l,vs,h=>by simp only[aS]at h;obtain⟨x,xs,rfl,_,b⟩:=h;simp[aS.length b]
def aS.at{ro:Qf}:∀{l:Q1}{vs:Q6},aS ro l vs->∀{k:Nat}{a:GV},l[k]? =some a->∃x,vs[k]? =some x/\GR ro a x
 |[],vs,h,k,a,c=>by simp at c
 |b::l,vs,h,k,a,c=>by
  simp only[aS]at h;obtain⟨x,xs,rfl,h1,d⟩:=h;cases k with
  |zero=>simp at c;subst c;exact⟨x,aA,h1⟩
  |succ k=>obtain⟨y,e,f⟩:=aS.at d (by simpa using c);exact⟨y,by simpa using e,f⟩
def gK{x:Nd}{n:Nat}(h:fK x=some n):∃g,aJ.val n=some g/\x.den aJ.I aJ.val=some g:=by obtain⟨a,b⟩:=aqK h;exact aJ.qQ n x a b
def amO{m f:Nat}(h:YD m f=true):(∃k a b,aJ.val m=some (.i k a)/\aJ.val f=some (.i k b)/\a≠b)\/(∃a b,aJ.val m=some (.s a)/\aJ.val f=some (.s b)/\a≠b):=by
 unfold YD at h;split at h
 ·next k a q b i j=>
  rw[aO]at h;have:=UW h.1;subst this;obtain⟨g,n,c⟩:=aJ.qQ _ _ i aA;obtain⟨p,o,d⟩:=aJ.qQ _ _ j aA;simp only[Nd.den,aY]at c d;subst c;subst d;refine .inl ⟨k,a,b,n,o,λe=>?_⟩;subst e;rw[(agN (a:=a) (b:=a)).2 rfl]at h;simp at h
 ·next a b i j=>
  obtain⟨g,n,c⟩:=aJ.qQ _ _ i aA;obtain⟨p,o,d⟩:=aJ.qQ _ _ j aA;simp only[Nd.den,aY]at c d;subst c;subst d;refine .inr ⟨a,b,n,o,λe=>?_⟩;subst e;rw[(aef (l:=a) (m:=a)).2 rfl]at h;simp at h
 ·cases h
def aao{n m:Nat}:∀{l:Wg},(∀p∈l,aJ.val p.1=some (.b p.2))->Gs n m l=true->(∃k a b,aJ.val n=some (.i k b)/\aJ.val m=some (.i k a)/\a≠b)\/(∃a b,aJ.val n=some (.s b)/\aJ.val m=some (.s a)/\a≠b)
 |[],_,h=>by simp[Gs]at h
 |p::l,s,h=>by
  simp only[Gs,nO]at h;rcases h with h|h
  ·cases d:p.2 with
   |false=>rw[d]at h;simp at h
   |true=>
    rw[d]at h;simp only[cond_true]at h;split at h
    ·next B D u=>
     rw[aO]at h;have e:=bM h.1;subst e;obtain⟨g,v,c⟩:=aJ.qQ _ _ u aA;have t:=s p aA;rw[d,v]at t;cases t;simp only[Nd.den]at c;rcases amO h.2 with⟨k,a,b,f,i,j⟩|⟨a,b,f,i,j⟩
     ·rw[i]at c;split at c
      ·next x y o r=>
       cases r;cases x<;>simp only[iG,bV,reduceCtorEq]at c
       split at c
       ·next z=>
        subst z;simp only[aY,GV.b.injEq,beq_iff_eq]at c;subst c;exact .inl ⟨_,a,_,o,f,j⟩
       ·cases c
      ·cases c
     ·rw[i]at c;split at c
      ·next x y o r=>
       cases r;cases x<;>simp only[iG,xG,reduceCtorEq]at c
       simp only[aY,GV.b.injEq,beq_iff_eq]at c;subst c;exact .inr ⟨a,_,o,f,j⟩
      ·cases c
    ·cases h
  ·exact aao (λq A=>s q (by simp[A])) h
def aeH{c n m:Nat}{b:Bool}:∀{l:Wg},(∀p∈l,aJ.val p.1=some (.b p.2))->Ld c n m l=some b->∃d x y,vV d=c/\aJ.val n=some x/\aJ.val m=some y/\iG d x y=some (.b b)
 |[],_,h=>by simp[Ld]at h
 |p::l,f,h=>by
  have i:=λh=>aeH (c:=c) (n:=n) (m:=m) (b:=b) (l:=l) (λq j=>f q (by simp[j])) h;simp only[Ld]at h;split at h
  ·next d k o r=>
   cases a:Nat.beq n k&&Nat.beq m o&&Nat.beq (vV d) c with
   |false=>rw[a]at h;exact i h
   |true=>
    rw[a]at h;simp only[cond_true,aY]at h;rw[aO,aO]at a;have s:=bM a.1.1;have t:=bM a.1.2;have u:=bM a.2;subst s;subst t;obtain⟨g,v,e⟩:=aJ.qQ _ _ r aA;have g3:=f p aA;rw[v,h]at g3;cases g3;simp only[Nd.den]at e;split at e
    ·next x y z A=>exact⟨d,x,y,u,z,A,e⟩
    ·cases e
  ·exact i h
def amK{f c:BinOp}{x y g:GV}{r:Bool}(h:FM f=some c)(h1:iG c x y=some (.b r))(d:iG f x y=some g):g=.b (!r):=by
 cases x with
 |i k a=>
  cases y with
  |i j b=>
   by_cases e:k=j
   ·subst e;unfold FM at h;split at h<;>cases h<;>simp only[iG,bV,if_true,aY,GV.b.injEq]at h1 d<;>rw[<-h1,<-d]<;>congr 1<;>rw[xK]<;>simp<;>omega
   ·unfold FM at h;split at h<;>cases h<;>simp only[iG,aj e]at h1<;>cases h1
  |_=>unfold FM at h;split at h<;>cases h<;>simp[iG]at h1
 |s a=>
  cases y with
  |s b=>unfold FM at h;split at h<;>cases h<;>simp only[iG,xG,aY,GV.b.injEq]at h1 d<;>rw[<-h1,<-d]<;>simp
  |_=>unfold FM at h;split at h<;>cases h<;>simp[iG]at h1
 |_=>unfold FM at h;split at h<;>cases h<;>simp[iG]at h1
def abJ{a:BinOp}{n m:Nat}{b:Bool}{g:GV}(h:QA a n m=some b)(c:(Nd.bin a n m).den aJ.I aJ.val=some g):g=.b b:=by
 unfold QA at h;split at h
 ·next d f=>
  obtain⟨r,i,rfl⟩:=bn.1 h;obtain⟨j,x,y,e,k,l,o⟩:=aeH (λp q=>aJ.BD p.1 p.2 q) i;have:=ah3.1 e;subst this;simp only[Nd.den,k,l]at c;exact amK f o c
 ·cases h
def axK{x:Nd}{b:Bool}{g:GV}(h:abK x=some b)(c:x.den aJ.I aJ.val=some g):g=.b b:=by
 unfold abK at h;split at h
 ·next n m=>
  cases d:Gs n m gQ.dec with
  |false=>rw[d]at h;simp only[cond_false]at h;exact abJ h c
  |true=>
   rw[d]at h;cases h;rcases aao (λp j=>aJ.BD p.1 p.2 j) d with⟨k,a,b,e,f,i⟩|⟨a,b,e,f,i⟩
   ·simp only[Nd.den,e,f,iG,bV,if_true,aY]at c;rw[<-c];simp[Ne.symm i]
   ·simp only[Nd.den,e,f,iG,xG,aY]at c;rw[<-c];simp[Ne.symm i]
 ·next n m=>
  cases d:Gs n m gQ.dec with
  |false=>rw[d]at h;simp only[cond_false]at h;exact abJ h c
  |true=>
   rw[d]at h;cases h;rcases aao (λp j=>aJ.BD p.1 p.2 j) d with⟨k,a,b,e,f,i⟩|⟨a,b,e,f,i⟩
   ·simp only[Nd.den,e,f,iG,bV,if_true,aY]at c;rw[<-c];simp[Ne.symm i]
   ·simp only[Nd.den,e,f,iG,xG,aY]at c;rw[<-c];simp[Ne.symm i]
 ·exact abJ h c
 ·cases h
def mP{x:Nd}{r:AV}(h:kL x=some r):∃n g,aJ.val n=some g/\x.den aJ.I aJ.val=some g/\∀v,g.scalar=true->GR F.ro g v->VR F r v:=by
 unfold kL at h;split at h
 ·next n f=>
  obtain⟨g,c,e⟩:=gK f;refine⟨n,g,c,e,λv i a=>?_⟩;split at h
  ·next b d=>
   cases h;have:=aJ.BD n b (O3 d);rw[c]at this;cases this;simp only[GR]at a;simp only[VR];exact a
  ·split at h
   ·next b d=>
    cases h;have:=axK d e;subst this;simp only[GR]at a;simp only[VR];exact a
   ·cases h;simp only[VR];exact⟨g,c,i,a⟩
 ·cases h
def Iw{a:Q4}{r:AV}(h:dB a=some r):∃v,a=some v/\∀(F:Env)(x:Value),VR F v x->VR F r x:=by
 unfold dB at h;split at h
 ·next n=>
  split at h
  ·next b f=>
   cases h;refine⟨_,rfl,λF x c=>?_⟩;have i:=aJ.BD n b (O3 f);simp only[VR]at c;obtain⟨g,d,_,e⟩:=c;rw[i]at d;cases d;simp only[GR]at e;subst e;simp only[VR]
  ·cases h
 ·exact⟨r,h,λ_ _ h=>h⟩
def lN{a:AV}{n:Nat}{v:Value}(h:iY a=some n)(e:VR F a v):∃g,aJ.val n=some g/\g.scalar=true/\GR F.ro g v:=by
 cases a<;>simp only[iY,reduceCtorEq,aY]at h
 case nd m=>subst h;simpa only[VR]using e
 case i k m=>obtain⟨g,d,c⟩:=gK h;simp only[Nd.den,aY]at c;subst c;exact⟨_,d,rfl,by simpa only[VR,GR]using e⟩
 case b x=>obtain⟨g,d,c⟩:=gK h;simp only[Nd.den,aY]at c;subst c;exact⟨_,d,rfl,by simpa only[VR,GR]using e⟩
 case s x=>obtain⟨g,d,c⟩:=gK h;simp only[Nd.den,aY]at c;subst c;exact⟨_,d,rfl,by simpa only[VR,GR]using e⟩
 case gy=>obtain⟨g,d,c⟩:=gK h;simp only[Nd.den,valsOf,gU,aY]at c;subst c;exact⟨_,d,rfl,by simp only[VR]at e;simp only[GR];exact .inl ⟨trivial,_,e⟩⟩
def Vt:∀{l:Q3}{c:Q2}{vs:Q6},nodesOf l=some c->aG F l vs->∃gs,valsOf aJ.val c=some gs/\gs.all GV.scalar=true/\aS F.ro gs vs
 |[],c,vs,h,b=>by simp only[nodesOf,aY]at h;subst h;simp only[aG]at b;subst b;exact⟨[],rfl,rfl,by simp[aS]⟩
 |a::l,c,vs,h,b=>by
  simp only[nodesOf]at h;split at h
  ·next n r d e=>
   cases h;simp only[aG]at b;obtain⟨x,xs,rfl,h1,f⟩:=b;obtain⟨g,i,j,g3⟩:=lN d h1;obtain⟨gs,k,m,o⟩:=Vt e f;exact⟨g::gs,by simp only[valsOf,i,k],by simp[j,m],by simp only[aS];exact⟨x,xs,rfl,g3,o⟩⟩
  ·cases h
def KP{a:AV}{n:Nat}{v:Value}(h:Fg a=some n)(d:VR F a v):∃l gs,a=.agg l/\gs.length=l.length/\aJ.val n=some (.g gs)/\gs.all GV.scalar=true/\GR F.ro (.g gs) v:=by
 unfold Fg at h;split at h
 ·next l=>
  split at h
  ·next m c=>
   simp only[VR]at d;obtain⟨i,rfl,b⟩:=d;obtain⟨gs,j,e,g3⟩:=Vt c b;obtain⟨g,k,f⟩:=gK h;simp only[Nd.den,j,e,if_true,aY]at f;subst f;exact⟨l,gs,rfl,by rw[g3.length,b.length],k,e,by simp only[GR];exact⟨i,rfl,g3⟩⟩
  ·cases h
 ·cases h
def ayf{c:BinOp}{t:TypeId}{x y:Operand}{k d:IntKind}{a b:Int}{w:World}:(eqGuard c t x y (.int k a) (.int d b)).run P w=.ok () w:=by unfold eqGuard;cases c<;>rfl
def ayg{c:BinOp}{t:TypeId}{x y:Operand}{a b:ByteArray}{w:World}:(eqGuard c t x y (.string a) (.string b)).run P w=.ok () w:=by unfold eqGuard;cases c<;>rfl
def as7{c:BinOp}{t:TypeId}{k:IntKind}{a b:Int}{g:GV}(h1:c≠.shl)(d:c≠.shr)(h:bV c k a b=some g):g.scalar=true/\∃z,(binOp c t (.int k a) (.int k b)).run P w=.ok z w/\GR F.ro g z:=by
 cases c<;>simp only[bV,reduceCtorEq]at h
 all_goals first|(exact absurd rfl h1)|(exact absurd rfl d)|(cases h;done)|skip
 all_goals first
  |(cases h;refine⟨rfl,?_⟩;simp only[binOp,ne_eq,not_true_eq_false,if_false,Op.intArith,Op.intCmp,Op.intBits];exact⟨_,rfl,by simp only[GR]⟩)
  |(split at h;cases h;cases h;next e=>refine⟨rfl,?_⟩;simp only[binOp,ne_eq,not_true_eq_false,if_false,Op.intDiv,e];exact⟨_,rfl,by simp only[GR]⟩)
def ajt{c:BinOp}{t:TypeId}{k e:IntKind}{a b:Int}{g:GV}(f:c=.shl\/c=.shr)(h:jQ c k a b=some g):g.scalar=true/\∃z,(binOp c t (.int k a) (.int e b)).run P w=.ok z w/\GR F.ro g z:=by
 unfold jQ at h;split at h
 ·cases h
 ·next d=>
  rcases f with rfl|rfl
  ·cases h;refine⟨rfl,?_⟩;simp only[binOp,Op.shift,aj d];exact⟨_,rfl,by simp only[GR]⟩
  ·cases h;refine⟨rfl,?_⟩;simp only[binOp,Op.shift,aj d];exact⟨_,rfl,by simp only[GR]⟩
def aAN{c:BinOp}{t:TypeId}{a b:Q0}{g:GV}(h:xG c a b=some g):g.scalar=true/\∃z,(binOp c t (.string ⟨⟨a⟩⟩) (.string ⟨⟨b⟩⟩)).run P w=.ok z w/\GR F.ro g z:=by
 cases c<;>simp only[xG,reduceCtorEq]at h
 all_goals first|(cases h;done)|skip
 all_goals first|(cases h;refine⟨rfl,?_⟩;simp only[binOp,Op.stringOp,toList_mk];exact⟨_,rfl,by simp only[GR]⟩)|skip
 split at h
 ·next d=>
  cases h;have:¬(((⟨⟨a⟩⟩:ByteArray).size+(⟨⟨b⟩⟩:ByteArray).size:Nat):Int)>IntKind.i64.max:=by rw[strSize,strSize];omega
  refine⟨rfl,?_⟩;simp only[binOp,Op.stringOp,aj this,adR];exact⟨_,rfl,by simp only[GR]⟩
 ·cases h
def alA{d:BinOp}{t:TypeId}{x y:Operand}{j l g:GV}{u e:Value}(h:iG d j l=some g)(h1:GR F.ro j u)(c:GR F.ro l e):
 g.scalar=true/\∃z,(do eqGuard d t x y u e;binOp d t u e:Sem Value).run P w=.ok z w/\GR F.ro g z:=by
 unfold iG at h;split at h
 ·next k a n b=>
  simp only[GR]at h1 c;subst h1;subst c;simp only[aU,ayf,aT];split at h
  ·exact ajt (.inl rfl) h
  ·exact ajt (.inr rfl) h
  ·next f i=>
   split at h
   ·next m=>subst m;exact as7 f i h
   ·cases h
 ·next a b=>
  simp only[GR]at h1 c;subst h1;subst c;simp only[aU,ayg,aT];exact aAN h
 ·cases h
def afu{t:TypeId}(c:P.underlying t=some .bool)(a b:Bool):(Op.equal t (.bool a) (.bool b)).run P w=.ok (a==b) w:=by
 have H:∀n,(Op.equalIn (n+1) t (.bool a) (.bool b)).run P w=.ok (a==b) w:=λn=>by simp only[Op.equalIn,aU,aZ c,aT,bH]
 exact H 9999
def aly{c:BinOp}{t:TypeId}{x y:Operand}{e f g:GV}{u d:Value}(i:P.underlying t=some .bool)(h:SC c e f=some g)(h1:GR F.ro e u)(j:GR F.ro f d):
 g.scalar=true/\∃z,(do eqGuard c t x y u d;binOp c t u d:Sem Value).run P w=.ok z w/\GR F.ro g z:=by
 unfold SC at h;split at h
 ·next a b=>
  simp only[GR]at h1 j;subst h1;subst j;split at h
  ·cases h;exact⟨rfl,_,rF (afu i a b) rfl rfl,by simp only[GR]⟩
  ·cases h;exact⟨rfl,_,rG (afu i a b) rfl rfl,by simp only[GR]⟩
  ·cases h
 ·cases h
def afv{w:World}(d:Nat):∀(fs:List Field)(k:Nat)(D:Q2)(xs p:Q6)(gs m:Q1)(r:Bool),MS P fs k=some D->aS F.ro gs (xs.drop k)->aS F.ro m (p.drop k)->nH D gs m=some r->
 (Op.eqFields (d+1) ⟨xs⟩ ⟨p⟩ fs).run P w=.ok r w
 |[],k,D,xs,p,gs,m,r,n,_,_,c=>by
  simp only[MS,aY]at n;subst n;cases gs with
  |cons g gs=>simp[nH]at c
  |nil=>
   cases m with
   |cons g gs=>simp[nH]at c
   |nil=>simp only[nH,aY]at c;subst c;simp[Op.eqFields]
 |f::fs,k,D,xs,p,gs,m,r,n,W,X,c=>by
  simp only[MS]at n;split at n
  ·next Y=>
   rw[aO,zG]at Y;obtain⟨Z,ho⟩:=Y;have G:=bM ho;split at n
   ·next a t o H=>
    cases n;cases gs with
    |nil=>simp[nH]at c
    |cons g gs=>
    cases m with
    |nil=>simp[nH]at c
    |cons I m=>
    simp only[aS]at W X;obtain⟨u,us,v,s,L⟩:=W;obtain⟨u',M,x,j,N⟩:=X;have O:xs[k]? =some u:=by rw[<-List.head?_drop,v];rfl
    have R:p[k]? =some u':=by rw[<-List.head?_drop,x];rfl
    have S:us=xs.drop (k+1):=by have:=uH (List.drop 1) v;simpa[uf]using this.symm
    have T:M=p.drop (k+1):=by have:=uH (List.drop 1) x;simpa[uf]using this.symm
    have y:nU P f.type=some false:=by unfold abk at o;unfold nU;split at o<;>first|(next h=>rw[h])|(cases o)
    have l:∀(E:Q6) z,E[k]? =some z->(part f.type ⟨E⟩ f.offset).run P w=.ok z w:=by
     intro E z hz;unfold part;simp only[aU,JI y,aT,ig,if_false];have:(⟨E⟩:QQ)[f.offset]? =some z:=by rw[G];simpa using hz
     simp only[this,bH]
    have U:(f.name ≠ "_"):=by intro e;rw[e]at Z;simp at Z
    have fin:∀b q,(Op.equalIn (d+1) f.type u u').run P w=.ok b w->nH t gs m=some q->(Op.eqFields (d+1) ⟨xs⟩ ⟨p⟩ (f::fs)).run P w=.ok (b&&q) w:=by
     intro b q hb i;have A:=afv (w:=w) d fs (k+1) t xs p gs m q H (by rw[<-S];exact L) (by rw[<-T];exact N) i;simp only[Op.eqFields,au U,aU,l _ _ O,l _ _ R,aT,hb];cases b with
     |true=>simpa using A
     |false=>simp
    unfold abk at o;split at o
    ·next kk B=>
     cases o;cases g<;>cases I<;>simp only[nH,reduceCtorEq]at c
     split at c
     ·next V=>
      subst V;obtain⟨q,i,rfl⟩:=bn.1 c;simp only[GR]at s j;subst s;subst j;exact fin _ _ (run_equalIn_int w d _ _ _ _ _ B) i
     ·cases c
    ·next B=>
     cases o;cases g<;>cases I<;>simp only[nH,reduceCtorEq]at c
     obtain⟨q,i,rfl⟩:=bn.1 c;simp only[GR]at s j;subst s;subst j;refine fin _ _ ?_ i;rw[run_equalIn_string w d _ _ _ B,toList_mk,toList_mk]
    ·next B=>
     cases o;cases g<;>cases I<;>simp only[nH,reduceCtorEq]at c
     obtain⟨q,i,rfl⟩:=bn.1 c;simp only[GR]at s j;subst s;subst j;exact fin _ _ (run_equalIn_bool' w d _ _ _ B) i
    ·cases o
   ·cases n
  ·cases n
def alz{k:BinOp}{t:TypeId}{x y:Operand}{fs:Array Field}{i:Q2}{o p g:GV}{u l:Value}(q:P.underlying t=some (.struct fs))(m:P.stoodInHeld t=false)(c:P.eqGuardType P.depth t=false)(A:MS P fs.toList 0=some i)
 (h:KU k i o p=some g) (h1:GR F.ro o u) (j:GR F.ro p l):
 g.scalar=true/\∃z,(do eqGuard k t x y u l;binOp k t u l:Sem Value).run P w=.ok z w/\GR F.ro g z:=by
 unfold KU at h;split at h
 ·next a b=>
  simp only[GR]at h1 j;obtain⟨s,rfl,h1⟩:=h1;obtain⟨v,rfl,j⟩:=j;have d:P.fieldsOf t=fs:=by unfold Program.fieldsOf;rw[q]
  have n:P.underlying t=some (.struct (P.fieldsOf t)):=by rw[d];exact q
  have e:∀r,nH i a b=some r->(Op.equalIn 10000 t (.agg ⟨s⟩) (.agg ⟨v⟩)).run P w=.ok r w:=by intro r f;rw[run_equalIn_agg w 9999 t _ _ n m,d];exact afv (F:=F) 9998 fs.toList 0 i s v a b r A (by simpa using h1) (by simpa using j) f
  split at h
  ·obtain⟨r,f,rfl⟩:=bn.1 h;refine⟨rfl,.bool r,?_,by simp only[GR]⟩;simp only[aU,run_eqGuard_agg w .eql t x y _ _ c,aT,run_eql_struct,e r f]
  ·obtain⟨r,f,rfl⟩:=bn.1 h;refine⟨rfl,.bool (!r),?_,by simp only[GR]⟩;simp only[aU,run_eqGuard_agg w .neq t x y _ _ c,aT,run_neq_struct,e r f]
  ·cases h
 ·cases h
def aAU{p:BinOp}{t:TypeId}{x y:Operand}{a b v:AV}{u r:Value}(c:Wy P p t a b=some v)(f:VR F a u)(j:VR F b r):
 ∃z,(do eqGuard p t x y u r;binOp p t u r:Sem Value).run P w=.ok z w/\VR F v z:=by
 unfold Wy at c
 have B:∀{m n:Nat}{R:Nd},kL R=some v->(∀g,R.den aJ.I aJ.val=some g->g.scalar=true/\∃z,(do eqGuard p t x y u r;binOp p t u r:Sem Value).run P w=.ok z w/\GR F.ro g z)->
  ∃z,(do eqGuard p t x y u r;binOp p t u r:Sem Value).run P w=.ok z w/\VR F v z:=by
  intro m n R D Z;obtain⟨_,g,_,h2,h3⟩:=mP (F:=F) D;obtain⟨h4,z,h5,h6⟩:=Z g h2;exact⟨z,h5,h3 z h4 h6⟩
 have E:(match iY a,iY b with|some x,some y=>kL (.bin p x y)|_,_=>none)=some v->∃z,(do eqGuard p t x y u r;binOp p t u r:Sem Value).run P w=.ok z w/\VR F v z:=by
  intro c;split at c
  ·next m n D G=>
   obtain⟨U,H,V,I⟩:=lN D f;obtain⟨W,L,X,M⟩:=lN G j;refine B (m:=m) (n:=n) c λg s=>?_;simp only[Nd.den,H,L]at s;exact alA s I M
  ·cases c
 split at c
 ·exact E c
 ·exact E c
 ·next d=>
  split at c
  ·next m n D G=>
   obtain⟨U,H,V,I⟩:=lN D f;obtain⟨W,L,X,M⟩:=lN G j;refine B (m:=m) (n:=n) c λg s=>?_;simp only[Nd.den,H,L]at s;exact aly d s I M
  ·cases c
 ·next fs d=>
  split at c
  ·next S=>
   rw[aO,zG,zG]at S;split at c
   ·next ks m n T D G=>
    obtain⟨l1,U,_,_,H,V,I⟩:=KP D f;obtain⟨l2,W,_,_,L,X,M⟩:=KP G j;refine B (m:=m) (n:=n) c λg s=>?_;simp only[Nd.den,H,L]at s;exact alz d S.1 S.2 T s I M
   ·cases c
  ·cases c
 ·next e d=>
  have N:∀{m l:Nat}{u:Value},VR F (.rx m l) u->∃o,u=.pointer (some o):=by intro m l u h;simp only[VR]at h;obtain⟨g,bl,base,cs,Y,fr,y,_,_,_,rfl,_⟩:=h;exact⟨_,rfl⟩
  have O:∀{id m l:Nat}{u:Value},VR F (.pv id m l) u->∃o,u=.pointer (some o):=by intro id m l u h;simp only[VR]at h;obtain⟨q,k,i,_,_,rfl⟩:=h;exact⟨_,rfl⟩
  have A:∀{u:Value},VR F .jH u->u=.pointer none:=by intro u h;simpa only[VR]using h
  split at c<;>cases c
  ·obtain⟨o,rfl⟩:=N f;have:=A j;subst this;exact⟨_,rF (FU d _) rfl rfl,by simp only[VR]⟩
  ·obtain⟨o,rfl⟩:=N j;have:=A f;subst this;exact⟨_,rF (FT d _) rfl rfl,by simp only[VR]⟩
  ·obtain⟨o,rfl⟩:=N f;have:=A j;subst this;exact⟨_,rG (FU d _) rfl rfl,by simp only[VR];rfl⟩
  ·obtain⟨o,rfl⟩:=N j;have:=A f;subst this;exact⟨_,rG (FT d _) rfl rfl,by simp only[VR];rfl⟩
  ·obtain⟨o,rfl⟩:=O f;have:=A j;subst this;exact⟨_,rF (FU d _) rfl rfl,by simp only[VR]⟩
  ·obtain⟨o,rfl⟩:=O j;have:=A f;subst this;exact⟨_,rF (FT d _) rfl rfl,by simp only[VR]⟩
  ·obtain⟨o,rfl⟩:=O f;have:=A j;subst this;exact⟨_,rG (FU d _) rfl rfl,by simp only[VR];rfl⟩
  ·obtain⟨o,rfl⟩:=O j;have:=A f;subst this;exact⟨_,rG (FT d _) rfl rfl,by simp only[VR];rfl⟩
 ·cases c
def aBA{b:UnOp}{g a:GV}{u:Value}(h:WZ b g=some a)(h1:GR F.ro g u):a.scalar=true/\∃z,(Op.unary b u).run P w=.ok z w/\GR F.ro a z:=by
 unfold WZ at h;split at h
 ·simp only[GR]at h1;subst h1;split at h
  ·cases h;exact⟨rfl,_,rfl,by simp only[GR]⟩
  ·cases h
 ·simp only[GR]at h1;subst h1;split at h
  ·cases h;exact⟨rfl,_,rfl,by simp only[GR]⟩
  ·simp only[bV,aY]at h;subst h;exact⟨rfl,_,rfl,by simp only[GR]⟩
  ·cases h
 ·cases h
def aA6{c:UnOp}{a v:AV}{u:Value}(b:NG c a=some v)(d:VR F a u):∃z,(Op.unary c u).run P w=.ok z w/\VR F v z:=by
 unfold NG at b;split at b
 ·next n=>
  obtain⟨_,g,_,e,f⟩:=mP (F:=F) b;simp only[VR]at d;obtain⟨g0,h,m,i⟩:=d;simp only[Nd.den,h]at e;obtain⟨j,z,k,l⟩:=aBA (P:=P) (w:=w) e i;exact⟨z,k,f z j l⟩
 ·cases b
def SR.swap(h:SR P F J w){id:Nat}{o o':bG}(n:J.get id=some o)(p:o'.own=o.own)(r:Live P F w id o'):SR P F (J.put id o') w:=by
 have b:∀k u,(J.put id o').get k=some u->∃c,J.get k=some c/\u.own=c.own:=by
  intro k u a;rw[aC.get_put]at a;split at a
  ·next e=>cases a;subst e;exact⟨o,n,p⟩
  ·exact⟨u,a,rfl⟩
 refine⟨h.mJ,h.dom,λk u a=>?_,h.jU,λk u m c q s d f g i t x=>?_,h.jc,λk u q d f g=>?_,h.tabs⟩
 ·rw[aC.get_put]at a;split at a
  ·next e=>cases a;subst e;exact r
  ·exact h.live k u a
 ·obtain⟨v,j,l⟩:=b k u d;obtain⟨y,z,A⟩:=b m c g;exact h.sep k v m y q s j (l▸f) z i t x
 ·obtain⟨v,j,l⟩:=b k u d;exact h.lq k v q j (l▸f) g
def St.left{F':Env}{τ:aC}{w':World}(h:St P F τ w F' J' w')(a:τ.lock=J.lock)(z:τ.next=J.next)(f:∀k u,τ.get k=some u->u.own=true->∃A,J.get k=some A/\A.own=true):St P F J w F' J' w':=by
 refine⟨h.ext,h.rel,h.size,λB g i=>h.keep B g λk u q j l m n=>?_,λk u q j l m n=>?_,h.os,h.tape,h.output,h.lock.trans a,z▸h.next,z▸h.new,λb g=>?_⟩
 ·obtain⟨v,c,d⟩:=f k u j l;exact i k v q c d (a▸m) n
 ·rcases h.own k u q j l (a▸m) n with h1|⟨e,o,p,c,d,r,s,t⟩
  ·exact .inl h1
  ·obtain⟨v,x,y⟩:=f e o c d;exact .inr ⟨e,v,p,x,y,a▸r,s,t⟩
 ·rcases h.qH b g with h1|h1|⟨e,o,p,c,d,r,s,t⟩
  ·exact .inl h1
  ·exact .inr (.inl h1)
  ·obtain⟨v,x,y⟩:=f e o c d;exact .inr (.inr ⟨e,v,p,x,y,a▸r,s,t⟩)
def St.right{F':Env}{τ:aC}{w':World}(h:St P F J w F' J' w')(rel:SR P F' τ w')(c:τ.lock=J'.lock)(a:τ.next=J'.next)(d:∀k u,τ.get k=some u->u.own=true->∃b,J'.get k=some b/\b.own=true):St P F J w F' τ w':=by refine⟨h.ext,rel,h.size,h.keep,λk u q e f g i=>?_,h.os,h.tape,h.output,c.trans h.lock,by rw[a];exact h.next,by rw[a];exact h.new,h.qH⟩;obtain⟨v,j,l⟩:=d k u e f;exact h.own k v q j l g i
def bP(xs:Q1):Q3:=dO (xs.flatMap GV.cells)
def Pg{xs:Q1}{sz:Nat}(h:∀x∈xs,x.cells.length=sz):(xs.flatMap GV.cells).length=xs.length*sz:=by
 induction xs with
 |nil=>simp
 |cons x xs a=>rw[jS,gu,h x aA,a (λy b=>h y (by simp[b])),iF,rC];omega
def aqT{xs:Q1}{sz:Nat}(h:∀x∈xs,x.cells.length=sz)(i:Nat):(xs.flatMap GV.cells).drop (i*sz)=(xs.drop i).flatMap GV.cells:=by
 induction xs generalizing i with
 |nil=>simp
 |cons x xs b=>
  cases i with
  |zero=>simp
  |succ i=>have a:=h x aA;rw[jS,ac7,Hg (by rw[a,rC];omega),a,bf,Xw,<-b (λy c=>h y (by simp[c]))];congr 1;rw[rC];omega
def aqS{xs:Q1}{sz i:Nat}{x:GV}(h:∀x∈xs,x.cells.length=sz)(hi:xs[i]? =some x):((xs.flatMap GV.cells).drop (i*sz)).take sz=x.cells:=by
 rw[aqT h];have:xs.drop i=x::xs.drop (i+1):=by obtain⟨a,rfl⟩:=fH.1 hi;exact gW a
 have b:=h x (rX hi);rw[this,jS,Rk ah,kQ ah]
def Ut(l:Q1)(n:Nat):dO (l.take n)=(dO l).take n:=by rw[xq,xq,adf]
def Us(l:Q1)(n:Nat):dO (l.drop n)=(dO l).drop n:=by rw[xq,xq,List.map_drop]
def IJ(l m:Q1):dO (l++m)=dO l++dO m:=by rw[xq,xq,xq,ng]
def ungroup:∀(xs:Q1)(vs:Q6),aG F (bP xs) vs->(∀x∈xs,x.cells.all GV.scalar=true)->∃a,aS F.ro xs a/\dN a=vs/\∀(k:Nat) x y,xs[k]? =some x->a[k]? =some y->y.cells.size=x.cells.length
 |[],vs,h,_=>by simp only[bP,List.flatMap_nil,dO,aG]at h;subst h;exact⟨[],by simp[aS],rfl,aA⟩
 |x::xs,vs,h,f=>by
  have m:aG F (dO x.cells++bP xs) vs:=by rw[bP,jS,IJ]at h;exact h
  have c:=m.take x.cells.length;have n:=m.drop x.cells.length;rw[Rk (by rw[lV];omega),kQ (by rw[lV];omega)]at c;rw[Xv (by rw[lV];omega),Hg (by rw[lV];omega),bf]at n;obtain⟨a,p,q,g3⟩:=ungroup xs _ n (λy i=>f y (by simp[i]));have j:=c.length;rw[lV]at j;have fin:∀y,GR F.ro x y->y.cells.toList=vs.take x.cells.length->∃a,aS F.ro (x::xs) a/\dN a=vs/\∀(k:Nat) e y,(x::xs)[k]? =some e->a[k]? =some y->y.cells.size=e.cells.length:=by
   intro y i d;refine⟨y::a,by simp only[aS];exact⟨y,a,rfl,i,p⟩,?_,?_⟩
   ·have:dN (y::a)=y.cells.toList++dN a:=by simp[dN]
    rw[this,d,q,KA]
   ·intro k e r l b;cases k with
    |zero=>simp at l b;subst l;subst b;rw[j,<-d];simp
    |succ k=>exact g3 k e r (by simpa using l) (by simpa using b)
  cases x with
  |g s=>exact fin (.agg ⟨vs.take s.length⟩) (by simp only[GR];exact⟨_,rfl,(oP _ _).2 c⟩) rfl
  |_=>simp only[GV.cells,dO,aG,iF,mZ]at c j;obtain⟨u,v,t,o,rfl⟩:=c;refine fin u ((lD _ _).2 o) ?_;rw[ah0 (GR.qE ((lD _ _).2 o) rfl)];exact t.symm
def aS.scalars{ro:Qf}:∀{gs:Q1}{vs:Q6},aS ro gs vs->(∀v∈vs,qE v=true)->gs.all GV.scalar=true
 |[],_,_,_=>rfl
 |g::gs,vs,h,a=>by
  simp only[aS]at h;obtain⟨x,xs,rfl,h1,b⟩:=h;simp only[qJ,aO];refine⟨?_,aS.scalars b λv c=>a v (by simp[c])⟩;cases g with
  |g d=>simp only[GR]at h1;obtain⟨vs,rfl,_⟩:=h1;have:=a (.agg ⟨vs⟩) aA;simp[qE]at this
  |_=>rfl
def OR.MC{q:Place}{m et:Nat}{f:Bool}(h:OR P F q w (.vec m et f)):∃xs,aJ.val m=some (.l xs)/\(∀x∈xs,x.cells.length=q.es)/\et≠0/\0<q.es/\sizeT P et=some q.es/\xs.length*q.es<=q.sz/\(∀x∈xs,x.cells.all GV.scalar=true)/\OR P F q w (.cells (bP xs) et true true):=by
 obtain⟨xs,l,b,n,o,p,s,i,t,u,j,r,z,_⟩:=h;obtain⟨A,B,D⟩:=r.room rfl;have c:∀x∈xs,x.cells.length=q.es:=by intro x E;obtain⟨k,d⟩:=NY E;obtain⟨y,G,e⟩:=i.at d;rw[e.aex];exact t y (rX G)
 have g:aG F (bP xs) (dN o):=by rw[bP,<-Zb];exact afO ((oP _ _).1 i)
 refine⟨xs,p,c,A,B,D,j,z,l,b,n,s,{fits:=r.fits,le:=by rw[bP,lV,Pg c];exact j,shut:=aA,cell:=λk a d=>?_,free:=r.free,whole:=r.whole,room:=r.room}⟩;obtain⟨v,e,H⟩:=g.at d;exact⟨v,u k v e,H⟩
def OR.Xb{q:Place}{m et:Nat}(h:OR P F q w (.vec m et true)):q.es<=q.sz:=by obtain⟨c,d,a,e,f,g,i,j,k,l,n,r,o,b⟩:=h;exact b rfl
def OR.yF{q:Place}{m et:Nat}{f:Bool}{xs:Q1}(v:f=true->q.es<=q.sz)(j:aJ.val m=some (.l xs))(d:∀x∈xs,x.cells.length=q.es)(e:∀x∈xs,x.cells.all GV.scalar=true){c:Q3}(h:OR P F q w (.cells c et true true))(z:∀vs,aG F c vs->aG F (bP xs) vs):OR P F q w (.vec m et f):=by
 obtain⟨o,g,A,B,r⟩:=h;have p:=r.fits;have D:=r.le;have l:aG F c ((o.toList.drop q.ba).take c.length):=by refine aG.of (by simp;omega) λk a b=>?_;obtain⟨x,E,j⟩:=r.cell k a b;have n:=(fH.1 b).1;exact⟨x,by rw[lT,au n,rW];simpa using E,j⟩
 have s:=z _ l;obtain⟨G,t,H,g3⟩:=ungroup xs _ s e;have u:xs.length*q.es=c.length:=by have:=s.length;rw[bP,lV,Pg d]at this;rw[this];simp;omega
 refine⟨xs,o,g,A,G,j,B,t,λy I=>?_,λk x b=>?_,ah,{fits:=r.fits,le:=aA,shut:=aA,cell:=aA,free:=r.free,whole:=r.whole,room:=r.room},e,v⟩
 ·obtain⟨k,b⟩:=NY I;have i:k<xs.length:=by rw[t.length];exact(fH.1 b).1
  rw[g3 k _ y (bT i) b];exact d _ (iq i)
 ·rw[H,lT]at b;split at b
  ·rw[rW]at b;simpa using b
  ·cases b
def kV(J:aC)(id:Nat)(xs:Q1)(et:TypeId):aC:=J.put id (.cells (bP xs) et true true)
def NJ(h:SR P F J w){id m et:Nat}{f:Bool}{q:Place}(a:J.get id=some (.vec m et f))(b:F id=some q):∃xs,aJ.val m=some (.l xs)/\(∀x∈xs,x.cells.length=q.es)/\et≠0/\0<q.es/\sizeT P et=some q.es/\xs.length*q.es<=q.sz/\(∀x∈xs,x.cells.all GV.scalar=true)/\SR P F (kV J id xs et) w:=by obtain⟨xs,c,d,e,g,i,j,k,l⟩:=(h.at a b).MC;exact⟨xs,c,d,e,g,i,j,k,h.swap a rfl (.inl ⟨q,b,l⟩)⟩
def ER{id:Nat}{xs:Q1}{et:TypeId}:(kV J id xs et).get id=some (.cells (bP xs) et true true):=by unfold kV;rw[aC.get_put,au rfl]
def QM{F':Env}{w':World}{id m et:Nat}{f:Bool}{xs:Q1}(b:J.get id=some (.vec m et f))(h:St P F (kV J id xs et) w F' J' w'):St P F J w F' J' w':=by
 refine h.left rfl rfl λk u a c=>?_;unfold kV at a;rw[aC.get_put]at a;split at a
 ·next e=>subst e;exact⟨_,b,rfl⟩
 ·exact⟨u,a,c⟩
def aBG{F':Env}{w':World}{id m et:Nat}{f:Bool}{q:Place}{xs:Q1}(i:f=true->q.es<=q.sz)(j:J.get id=some (.vec m et f))(l:F id=some q)(n:aJ.val m=some (.l xs))(c:∀x∈xs,x.cells.length=q.es)(d:∀x∈xs,x.cells.all GV.scalar=true)(h:St P F J w F' (kV J id xs et) w'):St P F J w F' J w':=by
 have a:=h.ext.pl _ _ l;have g:=OR.yF i n c d (h.rel.at ER a) (λ_ h=>h);refine h.right ((h.rel.swap (o':=.vec m et f) ER rfl (.inl ⟨q,a,g⟩)).sub (λk o b=>?_) (cO _)) rfl rfl (λk o b p=>?_)
 ·unfold kV;rw[aC.get_put,aC.get_put];split
  ·next e=>rw[e,j]at b;exact b
  ·exact b
 ·unfold kV;rw[aC.get_put];split
  ·exact⟨_,rfl,rfl⟩
  ·exact⟨o,b,p⟩
def Td{m:Nat}{g:GV}(j:aJ.val m=some g):∀(n off:Nat){l:Q3},Ip m off n=some l->∃r,takeN (dO g.cells) off n=some r/\∀vs,aG F r vs->aG F l vs
 |0,off,l,h=>by simp only[Ip,aY]at h;subst h;exact⟨[],by simp[takeN],λ_ h=>h⟩
 |n+1,off,l,h=>by
  simp only[Ip]at h;split at h
  ·next a r p q=>
   cases h;obtain⟨_,f,_,b,s⟩:=mP (F:=F) p;simp only[Nd.den,j]at b;split at b
   ·next c k=>
    split at b
    ·next t=>
     cases b;obtain⟨u,v,y⟩:=Td j n (off+1) q;obtain⟨z,A,I⟩:=rQ v;refine⟨kT f::u,?_,?_⟩
     ·have B:off<g.cells.length:=(fH.1 k).1;have D:(dO g.cells).drop off=kT f::(dO g.cells).drop (off+1):=by
       have d:(dO g.cells)[off]? =some (kT f):=by rw[Pn,k];rfl
       obtain⟨i,E⟩:=fH.1 d;rw[gW i,E]
      unfold takeN;simp only[D,Dn,<-z,iF,A,if_true]
     ·intro vs e;simp only[aG]at e⊢;obtain⟨x,o,rfl,G,H⟩:=e;exact⟨x,o,rfl,s x t ((lD _ _).2 G),y o H⟩
    ·cases b
   ·cases b
  ·cases h
def ab9{t:TypeId}{m off:Nat}{g:GV}{v:AV}(f:aJ.val m=some g)(h:QI P t m off=some v):∃r,(match nU P t with
 |some true=>match sizeT P t with
  |some n=>(takeN (dO g.cells) off n).map .agg
  |none=>none
 |some false=>(dO g.cells)[off]?
 |none=>none)=some r/\∀y,VR F r y->VR F v y:=by
 unfold QI at h;split at h
 ·next d=>
  split at h
  ·next n j=>
   obtain⟨l,k,rfl⟩:=bn.1 h;obtain⟨r,o,a⟩:=Td (F:=F) f n off k;rw[d,j];refine⟨.agg r,by simp[o],λy b=>?_⟩;simp only[VR]at b⊢;obtain⟨i,rfl,e⟩:=b;exact⟨i,rfl,a i e⟩
  ·cases h
 ·next d=>
  obtain⟨_,p,_,a,e⟩:=mP (F:=F) h;simp only[Nd.den,f]at a;split at a
  ·next c q=>
   split at a
   ·next s=>
    cases a;rw[d];exact⟨kT p,by simp only;rw[Pn,q];rfl,λy b=>e y s ((lD _ _).2 b)⟩
   ·cases a
  ·cases a
 ·cases h
def aA1(h:SR P F J w){t:TypeId}{a v:AV}{x:Value}(d:WG P t J a=some v)(E:VR F a x):∃y,(Instr.loadAt t x).run P w=.ok y w/\VR F v y:=by
 unfold WG at d;split at d
 ·next m b=>
  simp only[VR]at E;obtain⟨g,V,base,cs,z,fr,u,H,I,W,rfl,X⟩:=E;obtain⟨r,l,L⟩:=ab9 (F:=F) H d;have M:VR F (.rp (kT g) b) (.pointer (some ⟨V,base+b,none⟩)):=by simp only[VR];exact⟨V,base,cs,z,fr,u,I,(lD _ _).1 W,rfl,X⟩
  have N:wO P t J (.rp (kT g) b)=some r:=by simp only[wO,LU];exact l
  obtain⟨y,s,O⟩:=Gh h N M;exact⟨y,s,L y O⟩
 ·next id i b=>
  split at d
  ·next m et _ hg=>
   split at d
   ·next Y R=>
    split at d
    ·next e he=>
     simp only[VR]at E;obtain⟨q,k,j,Z,hj,rfl⟩:=E;obtain⟨G,H,I,W,X,s,_,_,hS⟩:=NJ h hg Z;rw[R]at s;cases s;obtain⟨g,g1,o⟩:=gK he;simp only[Nd.den,H,hj]at o;split at o
     ·next aa=>
      split at o
      ·next x S=>
       split at o
       ·next A=>
        cases o;obtain⟨r,l,L⟩:=ab9 (F:=F) g1 d;have B:=aqS I S;have p:∀n f,takeN (dO g.cells) b n=some f->takeN (bP G) (j.toNat*q.es+b) n=some f:=by
         intro n f c;obtain⟨e1,e2,e3⟩:=rQ c;rw[lV]at e3;have:((bP G).drop (j.toNat*q.es+b)).take n=f:=by rw[<-uf,bP,<-Us,e1,<-B,Ut,Ku,ado];congr 1;rw[A]at e3;omega
         unfold takeN;simp only[this,e2,if_true]
        have D:∀f,(dO g.cells)[b]? =some f->(bP G)[j.toNat*q.es+b]? =some f:=by
         intro f c;have T:b<q.es:=by have:=(fH.1 c).1;rw[lV,A]at this;exact this
         rw[<-B,Ut,lT,au T,Us,rW]at c;exact c
        have N:wO P t (kV J id G et) (.p id (j.toNat*q.es+b))=some r:=by
         simp only[wO,ER];split at l
         ·next U=>
          rw[U];split at l
          ·next n hn=>
           rw[hn];obtain⟨f,c,rfl⟩:=bn.1 l;simp only[p n f c,gU]
          ·cases l
         ·next U=>rw[U];exact D r l
         ·cases l
        obtain⟨y,s,O⟩:=Gh hS N (x:=.pointer (some ⟨q.bl,q.ba+j.toNat*q.es+b,none⟩)) (by simp only[VR];exact⟨q,Z,by rw[jY]⟩);exact⟨y,s,L y O⟩
       ·cases o
      ·cases o
     ·cases o
    ·cases d
   ·cases d
  ·cases d
 ·cases d
def aAX{t:TypeId}{a v:AV}{x:Value}{f:Nat}(h:WB P t a f=some v)(d:VR F a x):∃y,(Instr.fieldAt t x f).run P w=.ok y w/\VR F v y:=by
 unfold WB at h;split at h
 ·next e j=>
  split at h
  ·next l o=>
   split at h
   ·next n p=>
    split at h
    ·cases h
    ·next r=>
     split at h
     ·next m b=>
      cases h;simp only[VR]at d;obtain⟨g,s,base,z,c,A,u,B,D,E,rfl,G⟩:=d;refine⟨.pointer (some ⟨s,base+b+l.offset,none⟩),?_,?_⟩
      ·simp[Instr.fieldAt,aZ j,o,Instr.sureAddr,fieldPlace,jk p,r,qL]
      ·simp only[VR];exact⟨g,s,base,z,c,A,u,B,D,E,by rw[jY],G⟩
     ·next id m b=>
      cases h;simp only[VR]at d;obtain⟨q,k,i,H,hi,rfl⟩:=d;refine⟨.pointer (some ⟨q.bl,q.ba+i.toNat*q.es+b+l.offset,none⟩),?_,?_⟩
      ·simp[Instr.fieldAt,aZ j,o,Instr.sureAddr,fieldPlace,jk p,r,qL]
      ·simp only[VR];exact⟨q,k,i,H,hi,by rw[jY]⟩
     ·cases h
   ·cases h
  ·cases h
 ·cases h
def P5{i:Nat}{g:GV}{y:Value}(l:aJ.val i=some g)(e:GR F.ro g y):∀{c j:Nat}{k:AV},I5 i c j=some k->∃(a:IntKind)(m:Int),k=.i .i64 m/\y=.int a m
 |0,j,k,h=>by cases h
 |c+1,j,k,h=>by
  unfold I5 at h;have n:∀{r v},kL (.Ah i j)=some r->(∀x,VR F r x->VR F (.b v) x)->∃(a:IntKind)(m:Int),g=.i a m/\decide (m=(j:Int))=v:=by
   intro r v b d;obtain⟨_,z,A,f,q⟩:=mP (F:=F) b;simp only[Nd.den,l]at f;cases g with
   |i a m=>simp only[aY]at f;subst f;have:=d _ (q (.bool (decide (m=(j:Int)))) rfl (by simp only[GR]));simp only[VR]at this;cases this;exact⟨a,m,rfl,rfl⟩
   |_=>cases f
  have fin:∀{r},kL (.Ah i j)=some r->(∀x,VR F r x->VR F (.b true) x)->some (AV.i .i64 (j:Int))=some k->∃(a:IntKind)(m:Int),k=.i .i64 m/\y=.int a m:=by
   intro r b d s;obtain⟨a,m,rfl,o⟩:=n b d;cases s;have o:m=(j:Int):=by simpa using o
   subst o;simp only[GR]at e;exact⟨a,_,rfl,e⟩
  split at h
  ·next b=>exact fin b (λ_ h=>h) h
  ·next b=>exact P5 l e h
  ·next m b=>
   split at h
   ·next p=>
    obtain⟨v,d,t⟩:=Iw p;cases d;exact fin b (λx u=>t F x u) h
   ·next p=>exact P5 l e h
   ·cases h
  ·cases h
def aAY(h:SR P F J w){t:TypeId}{a i v:AV}{x y:Value}(b:WE P J t a i=some v)(d:VR F a x)(hy:VR F i y):∃z,(Instr.indexAt t x y).run P w=.ok z w/\VR F v z:=by
 unfold WE at b;split at b
 ·next e H=>
  split at b
  ·next aa ni f I=>
   obtain⟨gi,r,i2,l⟩:=lN I hy;split at b
   ·next n=>
    obtain⟨m,L,rfl⟩:=bn.1 b;obtain⟨g,M,c⟩:=gK L;simp only[VR]at d;obtain⟨gl,N,l2,l3⟩:=d;simp only[Nd.den,N,r]at c;split at c
    ·next p k j O R=>
     cases O;cases R;simp only[GR]at l;subst l;split at c
     ·next B=>
      split at c
      ·next z hz=>
       split at c
       ·next S=>
        cases c;have T:yN P t (.ro (dO p)) (.i k j)=some (.rp (kT g) 0):=by
         have:(dO p)[j.toNat]? =some (kT g):=by rw[Pn,hz];rfl
         simp only[yN,H,wM,f,au B,this,LU,lV,S,if_true]
        obtain⟨U,D,E⟩:=PV (P:=P) (w:=w) T ((lD (.l p) x).1 l3) (by simp only[VR]:VR F (.i k j) (.int k j));refine⟨U,D,?_⟩;simp only[VR]at E⊢;obtain⟨bl,base,cs,s,fr,u,k1,k2,k3,k4⟩:=E;exact⟨g,bl,base,cs,s,fr,u,M,k1,(lD _ _).2 k2,k3,k4⟩
       ·cases c
      ·cases c
     ·cases c
    ·cases c
   ·next id n=>
    split at b
    ·next m et _ hg=>
     split at b
     ·next V=>
      have IU:=bM V;subst IU;obtain⟨m',L,rfl⟩:=bn.1 b;obtain⟨g,M,c⟩:=gK L;simp only[VR]at d;obtain⟨p,N,d⟩:=d;simp only[Nd.den,N,r]at c;split at c
      ·next ab k j O R=>
       cases O;cases R;simp only[GR]at l;subst l;split at c
       ·next B=>
        cases c;rcases d with⟨q,G,W,rfl⟩|⟨_,rfl,_⟩
        ·obtain⟨_,_,_,_,_,D,_⟩:=(h.at hg G).MC;rw[f]at D;cases D;have T:yN P t (.sl id 0 p.length none) (.i k j)=some (.p id (0+j.toNat*q.es)):=by simp only[yN,H,wM,f,au B]
         obtain⟨U,E,h7⟩:=PV (P:=P) (w:=w) (x:=.slice (some ⟨q.bl,q.ba,none⟩) p.length (q.sz/q.es)) T (by simp only[VR];exact⟨q,G,by simpa using W,aA⟩) (by simp only[VR]:VR F (.i k j) (.int k j));refine⟨U,E,?_⟩;simp only[VR]at h7⊢;obtain⟨q',A,rfl⟩:=h7;rw[G]at A;cases A;exact⟨q,.i64,j,G,M,aA⟩
        ·simp at B;omega
       ·cases c
      ·cases c
     ·cases b
    ·cases b
   ·next id X len Y=>
    split at b
    ·next k Z=>
     obtain⟨kk,m,rfl,rfl⟩:=P5 r l Z;have o:yN P t (.sl id X len Y) (.i kk m)=some v:=b;exact PV o d (by simp only[VR])
    ·cases b
   ·cases b
  ·cases b
 ·next len e H=>
  split at b
  ·next ni hi=>
   obtain⟨g,r,_,l⟩:=lN hi hy;split at b
   ·next k Z=>
    obtain⟨kk,m,rfl,rfl⟩:=P5 r l Z;have o:yN P t a (.i kk m)=some v:=b;exact PV o d (by simp only[VR])
   ·cases b
  ·cases b
 ·cases b
def aA0{t:TypeId}{ts:Wr}{ty:TypeId}{a v:AV}{x:Value}(r:ts[0]? =some t)(j:ab8 P t a=some v)(h:VR F a x):
 ∃y,(Builtin.len_ ts ty #[x]).run P w=.ok y w/\VR F v y:=by
 have m:∀s:Q0,P.underlying t=some .string->(Builtin.len_ ts ty #[.string ⟨⟨s⟩⟩]).run P w=.ok (.int .i64 s.length) w:=λs f=>by simp[Builtin.len_,r,aZ f,goInt,strSize]
 have l:∀(e:TypeId) b (n c:Nat),P.underlying t=some (.slice e)->(Builtin.len_ ts ty #[.slice b n c]).run P w=.ok (.int .i64 n) w:=λe b n c f=>by simp[Builtin.len_,r,aZ f,goInt]
 unfold ab8 at j;split at j
 ·next n f=>
  obtain⟨_,g,_,d,i⟩:=mP (F:=F) j;simp only[VR]at h;obtain⟨g0,o,u,k⟩:=h;simp only[Nd.den,o]at d;split at d
  ·next s p=>
   cases p;cases d;simp only[GR]at k;subst k;exact⟨_,m s f,i _ rfl (by simp only[GR])⟩
  ·cases d
 ·next e n f=>
  obtain⟨_,g,_,d,i⟩:=mP (F:=F) j;simp only[VR]at h;obtain⟨g0,o,u,k⟩:=h;simp only[Nd.den,o]at d;split at d
  ·next z p=>
   cases p;cases d;simp only[GR]at k;rcases k with⟨rfl,_,rfl⟩|⟨E,A,c,G,H,rfl,_⟩
   ·exact⟨_,l e _ _ _ f,i _ rfl (by simp only[GR];rfl)⟩
   ·exact⟨_,l e _ _ _ f,i _ rfl (by simp only[GR])⟩
  ·cases d
 ·next e id n f=>
  obtain⟨_,g,_,d,i⟩:=mP (F:=F) j;simp only[VR]at h;obtain⟨z,B,h⟩:=h;simp only[Nd.den,B,aY]at d;subst d;rcases h with⟨q,I,D,rfl⟩|⟨_,rfl,rfl⟩
  ·exact⟨_,l e _ _ _ f,i _ rfl (by simp only[GR])⟩
  ·exact⟨_,l e _ _ _ f,i _ rfl (by simp only[GR];rfl)⟩
 ·cases j
def aAZ{t:TypeId}{a i v:AV}{x y:Value}(b:WC P t a i=some v)(p:VR F a x)(q:VR F i y):∃z,(Instr.index t x y).run P w=.ok z w/\VR F v z:=by
 unfold WC at b;split at b
 ·next r=>
  split at b
  ·next n A B h=>
   obtain⟨T,l,U,f⟩:=lN h q;obtain⟨V,D,W,u⟩:=lN B p;obtain⟨_,g,_,d,E⟩:=mP (F:=F) b;simp only[Nd.den,D,l]at d;split at d
   ·next s k j G H=>
    cases G;cases H;simp only[GR]at f;subst f;simp only[GR]at u;subst u;split at d
    ·next I=>
     split at d
     ·next c L=>
      cases d;have M:Fb P t (.s s) (.i k j)=some (.i .u8 c.toNat):=by simp only[Fb,r,wM,au I,L]
      obtain⟨z,N,O⟩:=ZI (P:=P) (w:=w) (F:=F) M (by simp only[VR]:VR F (.s s) (.string ⟨⟨s⟩⟩)) (by simp only[VR]:VR F (.i k j) (.int k j));exact⟨z,N,E z rfl ((lD _ _).2 O)⟩
     ·cases d
    ·cases d
   ·cases d
  ·cases b
 ·next len e r=>
  split at b
  ·next A hi=>
   obtain⟨g,l,_,f⟩:=lN hi q;split at b
   ·next k R=>
    obtain⟨S,m,rfl,rfl⟩:=P5 l f R;have o:Fb P t a (.i S m)=some v:=b;exact ZI o p (by simp only[VR])
   ·cases b
  ·cases b
 ·cases b
def ad7{F:Env}{lo:Q4}{b:Ww}{l:Nat}{d:Nd}{e:GV}(i:(match lo with|none=>fK d|some a=>iY a)=some l)(f:lF F lo b)(j:aJ.val l=some e):
 (lo=none/\b=none/\d.den aJ.I aJ.val=some e)\/(∃v,b=some v/\GR F.ro e v):=by
 cases lo with
 |none=>
  obtain⟨g,c,k⟩:=gK i;rw[j]at c;cases c;refine .inl ⟨rfl,?_,k⟩;cases b with
  |none=>rfl
  |some v=>simp[lF]at f
 |some a=>
  cases b with
  |none=>simp[lF]at f
  |some v=>
   have h:VR F a v:=by simpa[lF]using f
   obtain⟨g,c,_,m⟩:=lN i h;rw[j]at c;cases c;exact .inr ⟨v,rfl,m⟩
def acd{lo hi:Q4}{f g:Ww}{l h:Nat}{d:Nd}{k m:IntKind}{j c:Int}{len:Nat}(n:OA lo=some l)(o:SE d hi=some h)(h1:lF F lo f)(s:lF F hi g)
 (t:aJ.val l=some (.i k j)) (u:aJ.val h=some (.i m c)) (x:d.den aJ.I aJ.val=some (.i m c)->c=len) (h0:0<=j) (y:j<=c) (z:c<=len):
 ∃a b:Q4,lF F a f/\lF F b g/\xX len (λh=>Nat.ble h len) a b=some (j.toNat,c.toNat):=by
 have p:=ad7 (d:=.ci .i64 0) (by cases lo<;>exact n) h1 t;have q:=ad7 (d:=d) (by cases hi<;>exact o) s u;have i:Nat.ble c.toNat len=true:=adq ah;have A:∃b:Q4,lF F b g/\Bc len (λh=>Nat.ble h len) b=some c.toNat:=by
  rcases q with⟨_,r,e⟩|⟨v,rfl,e⟩
  ·refine⟨none,by rw[r];simp[lF],?_⟩;simp only[Bc];rw[x e];simp
  ·simp only[GR]at e;subst e;exact⟨some (.i m c),by simp[lF,VR],by simp only[Bc,wM];rw[au ⟨ah,i⟩]⟩
 have B:∃a:Q4,lF F a f/\KN c.toNat a=some j.toNat:=by
  rcases p with⟨_,r,e⟩|⟨v,rfl,e⟩
  ·refine⟨none,by rw[r];simp[lF],?_⟩;simp only[Nd.den,aY,GV.i.injEq]at e;simp only[KN];rw[<-e.2];rfl
  ·simp only[GR]at e;subst e;exact⟨some (.i k j),by simp[lF,VR],by simp only[KN,wM];rw[au ⟨h0,ah⟩]⟩
 obtain⟨b,D,E⟩:=A;obtain⟨a,G,H⟩:=B;exact⟨a,b,G,D,by simp only[xX,E,H]⟩
def ajU(h:SR P F J w){t:TypeId}{a v:AV}{x:Value}{lo hi:Q4}{o p:Ww}(b:QJ P t a lo hi=some v)(H:VR F a x)(q:lF F lo o)(r:lF F hi p):
 ∃y,(Instr.sliceAt t x o p none).run P w=.ok y w/\VR F v y:=by
 unfold QJ at b;split at b
 ·next I=>
  split at b
  ·next n hn=>
   split at b
   ·next l hh L M=>
    obtain⟨gs,u,s2,E⟩:=lN hn H;obtain⟨_,g,_,c,N⟩:=mP (F:=F) b;simp only[Nd.den,u]at c;split at c
    ·next s k G k' d O R S=>
     cases O;split at c
     ·next A=>
      cases c;simp only[GR]at E;subst E;obtain⟨j,m,T,U,V⟩:=acd (len:=s.length) L M q r R S (λB=>by simp only[Nd.den,u,aY,GV.i.injEq]at B;exact B.2.symm) A.1 A.2.1 A.2.2;have W:Bf P t J (.s s) j m=some (.s ((s.take d.toNat).drop G.toNat)):=by simp only[Bf,I,V,gU]
      obtain⟨z,X,Y⟩:=Wl h W (by simp only[VR]:VR F (.s s) (.string ⟨⟨s⟩⟩)) T U;exact⟨z,X,N z rfl ((lD _ _).2 Y)⟩
     ·cases c
    ·cases c
   ·cases b
  ·cases b
 ·next e I=>
  split at b
  ·next n D Z=>
   split at b
   ·next l hh L M=>
    simp only[VR]at H;obtain⟨gs,u,s2,E⟩:=H;obtain⟨_,g,_,c,N⟩:=mP (F:=F) b;simp only[Nd.den,u]at c;split at c
    ·next f k G k' d O R S=>
     cases O;split at c
     ·next A=>
      cases c;obtain⟨c1,c2,c3,c4⟩:=A;obtain⟨j,m,T,U,V⟩:=acd (len:=f.length) L M q r R S (λB=>by simp only[Nd.den,u,aY,GV.i.injEq]at B;exact B.2.symm) c1 c2 c3;have W:Bf P t J (.ro (dO f)) j m=some (.ro (dO ((f.take d.toNat).drop G.toNat))):=by
       simp only[Bf,I,Z,lV,V,zN];unfold RV;split
       ·next e=>
        have:(f.take d.toNat).drop G.toNat=[]:=Hg (by simp;omega);rw[this];rfl
       ·next e=>
        have i:0<f.length:=ah;have h0:(dO f)[0]? =some (kT f[0]):=by rw[Pn,bT i];rfl
        rw[h0];simp only;have aa:(kT f[0]).cells.length=D:=by rw[LU,lV];rw[List.all_eq_true]at c4;exact bM (c4 _ (iq i))
        rw[au aa,Us,Ut]
      obtain⟨z,X,Y⟩:=Wl h W ((lD (.l f) x).1 E) T U;exact⟨z,X,N z rfl ((lD _ _).2 (by simpa only[kT]using Y))⟩
     ·cases c
    ·cases c
   ·cases b
  ·cases b
 ·cases b
def awU{cs vs r:Q1}{off:Nat}(h:putCells cs off vs=some r):off+vs.length<=cs.length/\r=cs.take off++vs++cs.drop (off+vs.length):=by
 unfold putCells at h;split at h
 ·next a=>cases h;exact⟨a,rfl⟩
 ·cases h
def GV.awX{x y:GV}{off:Nat}{vs:Q1}(h:x.put off vs=some y)(c:vs.all GV.scalar=true)(e:x.cells.all GV.scalar=true):off+vs.length<=x.cells.length/\y.cells=x.cells.take off++vs++x.cells.drop (off+vs.length)/\y.cells.length=x.cells.length/\y.cells.all GV.scalar=true:=by
 have fin:∀r:Q1,off+vs.length<=x.cells.length->r=x.cells.take off++vs++x.cells.drop (off+vs.length)->r.length=x.cells.length/\r.all GV.scalar=true:=by intro r f d;subst d;refine⟨by simp;omega,?_⟩;rw[ac2,ac2,c];rw[List.all_eq_true]at e;simp only[Q5,aO,List.all_eq_true];exact⟨λa j=>e a (Kz j),λa j=>e a (NZ j)⟩
 have one:∀v,off=0->vs=[v]->x.cells.length=1->y=v->off+vs.length<=x.cells.length/\y.cells=x.cells.take off++vs++x.cells.drop (off+vs.length)/\y.cells.length=x.cells.length/\y.cells.all GV.scalar=true:=by intro v p q k t;subst p;subst q;subst t;simp only[qJ,ac3,Q5]at c;have m:y.cells=[y]:=GV.JJ c;refine⟨by simp[k],?_,by rw[m,k];rfl,by rw[m];simp[c]⟩;rw[m,Hg (by rw[k];simp)];simp
 unfold GV.put at h;split at h
 ·next o=>
  obtain⟨r,u,rfl⟩:=bn.1 h;obtain⟨f,d⟩:=awU u;obtain⟨z,A⟩:=fin r f d;exact⟨f,d,z,A⟩
 ·next n=>
  have B:x.cells.length=1:=by
   cases x with
   |g o=>exact absurd rfl (n o)
   |_=>rfl
  split at h
  ·next v=>cases h;exact one y rfl rfl B rfl
  ·cases h
def afQ{y:GV}{vs:Q1}{off sz:Nat}:∀{xs:Q1}{i:Nat}{x:GV},(∀z∈xs,z.cells.length=sz)->xs[i]? =some x->off+vs.length<=sz->y.cells=x.cells.take off++vs++x.cells.drop (off+vs.length)->
 (xs.set i y).flatMap GV.cells=(xs.flatMap GV.cells).take (i*sz+off)++vs++(xs.flatMap GV.cells).drop (i*sz+off+vs.length)
 |[],i,x,_,hi,_,_=>by simp at hi
 |z::xs,0,x,c,hi,a,d=>by simp only[kP,aY]at hi;subst hi;have f:=c z aA;rw[List.set_cons_zero,jS,jS,d];rw[Rk ah,Xv ah];simp[List.append_assoc]
 |z::xs,i+1,x,c,hi,a,d=>by
  have f:=c z aA;have g:=afQ (i:=i) (λu h=>c u (xP _ h)) (by simpa using hi) a d;rw[List.set_cons_succ,jS,jS,g];have j:∀(b:Q1) k,(z.cells++b).take (z.cells.length+k)=z.cells++b.take k:=λF k=>by rw[List.take_append,kQ ah,XF]
  have l:∀(b:Q1) k,(z.cells++b).drop (z.cells.length+k)=b.drop k:=λF k=>by rw[ac7,Hg ah,bf,XF]
  have e:(i+1)*sz+off=z.cells.length+(i*sz+off):=by rw[f,rC];omega
  rw[e,j,jY z.cells.length,l];simp[List.append_assoc]
def aap:∀{l:Q3}{b:Q2},nodesOf l=some b->l.all AV.nT=true
 |[],_,_=>rfl
 |a::l,b,h=>by
  simp only[nodesOf]at h;split at h
  ·next n r c d=>
   simp only[qJ,aO];exact⟨by cases a<;>simp[iY]at c<;>rfl,aap d⟩
  ·cases h
def aG.split{l m:Q3}:∀{vs:Q6},aG F (l++m) vs->∃a b,vs=a++b/\aG F l a/\aG F m b:=by
 intro vs h;have c:=h.length;rw[gu]at c;refine⟨vs.take l.length,vs.drop l.length,(KA _ _).symm,?_,?_⟩
 ·have:=h.take l.length;rwa [Rk ah,kQ ah]at this
 ·have:=h.drop l.length;rwa [Xv ah,Hg ah,bf]at this
def aA5(h:SR P F J w){t:TypeId}{a v:AV}{x y:Value}(d:WO P t J a v=some J')(n:VR F a x)(N:VR F v y):
 ∃w',(Instr.storeAt t x y).run P w=.ok () w'/\St P F J w F J' w':=by
 unfold WO at d;split at d
 ·next id i b=>
  split at d
  ·next m r f O=>
   split at d
   ·next hc=>
    obtain⟨R,S⟩:=hc;split at d
    ·next ag vs T s=>
     split at d
     ·next m' U=>
      cases d;simp only[VR]at n;obtain⟨q,k,j,B,hj,rfl⟩:=n;obtain⟨c,h1,V,h3,h4,h5,h6,D,hS⟩:=NJ h O B;rw[T]at h5;cases h5;obtain⟨W,g1,g2,g3⟩:=Vt s (zV N);obtain⟨g,k1,p⟩:=gK U;simp only[Nd.den,h1,hj,g1]at p;split at p
      ·next ai=>
       split at p
       ·next u X=>
        split at p
        ·next yX=>
         obtain⟨z,hz,rfl⟩:=bn.1 p;obtain⟨p1,p2,p3,p4⟩:=GV.awX hz g2 (D u (rX X));have Y:=afQ V X ah p2;have E:v.cells.length=W.length:=by rw[g3.length,(zV N).length]
         have Z:j.toNat<c.length:=(fH.1 X).1;have aa:(bP c).length=c.length*q.es:=by rw[bP,lV,Pg V]
         have ab:j.toNat*q.es+b+v.cells.length<=(bP c).length:=by rw[aa,E];have:(j.toNat+1)*q.es<=c.length*q.es:=uj _ Z;rw[rC]at this;omega
         have G:Aw (bP c) (j.toNat*q.es+b) v.cells=some ((bP c).take (j.toNat*q.es+b)++v.cells++(bP c).drop (j.toNat*q.es+b+v.cells.length)):=by unfold Aw;rw[au ab]
         have ac:Fe P t (kV J id c r) (.p id (j.toNat*q.es+b)) v=some ((kV J id c r).put id (.cells ((bP c).take (j.toNat*q.es+b)++v.cells++(bP c).drop (j.toNat*q.es+b+v.cells.length)) r true true)):=by simp only[Fe,ER];rw[au ⟨R,S,aap s⟩,G];rfl
         obtain⟨w',H,l⟩:=Wv hS ac (x:=.pointer (some ⟨q.bl,q.ba+j.toNat*q.es+b,none⟩)) (by simp only[VR];exact⟨q,B,by rw[jY]⟩) N;refine⟨w',H,(QM O l).right ?_ rfl rfl ?_⟩
         ·have ad:=l.rel.at (id:=id) (q:=q) (by rw[aC.get_put,au rfl]) B;have I:OR P F q w' (.vec m' r f):=by
           refine OR.yF (λe=>by subst e;exact(h.at O B).Xb) k1 ?_ ?_ ad ?_
           ·intro x n;rcases adk n with n|rfl
            ·exact V x n
            ·rw[p3,yX]
           ·intro x n;rcases adk n with n|rfl
            ·exact D x n
            ·exact p4
           ·intro us ae;have e1:bP (c.set j.toNat z)=(bP c).take (j.toNat*q.es+b)++dO W++(bP c).drop (j.toNat*q.es+b+W.length):=by unfold bP;rw[Y,IJ,IJ,Ut,Us]
            rw[e1,<-E];obtain⟨u1,u2,rfl,q1,q2⟩:=aG.split ae;obtain⟨u3,u4,rfl,q3,q4⟩:=aG.split q1;obtain⟨ak,L,_,af⟩:=Vt s q4;rw[g1]at L;cases L;exact(q3.append ((oP _ _).1 af)).append q2
          have M:=aC.get_put (kV J id c r) id id (.cells ((bP c).take (j.toNat*q.es+b)++v.cells++(bP c).drop (j.toNat*q.es+b+v.cells.length)) r true true);rw[au rfl]at M;have:=l.rel.swap (o':=.vec m' r f) M rfl (.inl ⟨q,B,I⟩);refine this.sub (λal o A=>?_) (cO _);unfold kV;rw[aC.get_put]at A⊢;split at A
          ·next e=>rw[au e];exact A
          ·next e=>rw[aj e,aC.get_put,aj e,aC.get_put,aj e];exact A
         ·intro k' u' hk A;rw[aC.get_put]at hk⊢;split at hk
          ·next e=>rw[au e];exact⟨_,rfl,rfl⟩
          ·next e=>
           rw[aj e];unfold kV;rw[aC.get_put,aj e];exact⟨u',hk,A⟩
        ·cases p
       ·cases p
      ·cases p
     ·cases d
    ·cases d
   ·cases d
  ·cases d
 ·cases d
def Env.ghost(F:Env)(id:Nat):Env:=⟨F.pl,F.ro,λk=>Nat.beq k id ||F.gh k⟩
def St.ghost(h:SR P F J w){τ:aC}{m et:Nat}{f:Bool}(A:aJ.val m=some (.l []))(B:τ.lock=J.lock)(D:τ.next=J.next)(l:∀k o,τ.get k=some o->J.get k=some o):
 St P F J w (F.ghost J.next) (τ.new (.vec m et f)) w:=by
 have c:F.le (F.ghost J.next):=⟨λ_ _ h=>h,λ_ _ h=>h,λid n=>by simp[Env.ghost,n]⟩
 have get:∀k o,(τ.new (.vec m et f)).get k=some o->(k=J.next/\o=.vec m et f)\/(k≠J.next/\J.get k=some o):=by
  intro k o t;rw[aC.pF,D]at t;split at t
  ·next e=>cases t;exact .inl ⟨e,rfl⟩
  ·next e=>exact .inr ⟨e,l k o t⟩
 have pl:∀k,(F.ghost J.next) k=F k:=λ_=>rfl;have b:∀k q,k=J.next->F k=some q->False:=λk q e d=>by have:=h.dom k q d;omega
 refine⟨c,⟨h.mJ,λid q d=>?_,λid o E=>?_,λid n=>?_,λid o g v q x r s j u y z=>?_,h.jc,λid o q r s j=>?_,λp G=>(h.tabs p G).mono c⟩,cO _,λ_ _ _=>rfl,λid o q r s j u=>?_,rfl,rfl,rfl,B,?_,?_,λ_ h=>.inl h⟩
 ·have:=h.dom id q d;show id<τ.next+1;omega
 ·rcases get id o E with⟨rfl,rfl⟩|⟨_,i⟩
  ·exact .inr ⟨by simp[Env.ghost],m,et,f,rfl,A⟩
  ·exact(h.live id o i).mono c
 ·have a:(Nat.beq id J.next ||F.gh id)=true:=n;rw[nO]at a;rcases a with a|a
  ·have e:=bM a;subst e;refine⟨?_,by show J.next<τ.next+1;omega⟩;rw[pl];cases d:F J.next with
   |none=>rfl
   |some q=>exact absurd (h.dom _ q d) ah
  ·have:=h.jU id a;exact⟨this.1,by show id<τ.next+1;omega⟩
 ·rcases get id o r with⟨e,_⟩|⟨_,i⟩
  ·exact(b id q e y).elim
  ·rcases get g v j with⟨e,_⟩|⟨_,H⟩
   ·exact(b g x e z).elim
   ·exact h.sep id o g v q x i s H u y z
 ·rcases get id o r with⟨e,_⟩|⟨_,i⟩
  ·exact(b id q e j).elim
  ·exact h.lq id o q i s j
 ·rcases get id o r with⟨e,_⟩|⟨_,i⟩
  ·exact(b id q e u).elim
  ·exact .inr ⟨id,o,q,i,s,j,u,rfl⟩
 ·show J.next<=τ.next+1;omega
 ·rintro id (⟨q,d⟩|n)
  ·exact .inl (.inl ⟨q,d⟩)
  ·have a:(Nat.beq id J.next ||F.gh id)=true:=n;rw[nO]at a;rcases a with a|a
   ·have e:=bM a;right;show J.next<=id/\id<τ.next+1;omega
   ·exact .inl (.inr a)
def zk:∀(f:Nat){m n:Nat}{xs p:Q1},vY f m n=true->aJ.val m=some (.l xs)->aJ.val n=some (.l p)->xs.length=p.length
 |0,m,n,xs,p,h,h1,d=>by have:=bM h;subst this;rw[h1]at d;cases d;rfl
 |f+1,m,n,xs,p,h,h1,d=>by
  simp only[vY,nO]at h;rcases h with h|h
  ·have:=bM h;subst this;rw[h1]at d;cases d;rfl
  ·split at h
   ·next z o a i v q=>
    obtain⟨g,l,c⟩:=aJ.qQ m _ q aA;rw[h1]at l;cases l;simp only[Nd.den]at c;split at c
    ·next s k j x r t A=>
     split at c
     ·split at c
      ·split at c
       ·obtain⟨y,_,e⟩:=bn.1 c;cases e;rw[EZ];exact zk f h r d
       ·cases c
      ·cases c
     ·cases c
    ·cases c
   ·next a b q=>
    obtain⟨g,l,c⟩:=aJ.qQ m _ q aA;rw[h1]at l;cases l;simp only[Nd.den]at c;split at c
    ·next s B r t=>
     split at c
     ·next u=>cases c;rw[u];exact zk f h r d
     ·cases c
    ·cases c
   ·cases h
def azO:∀(f:Nat){m n:Nat}{g:GV}{k:Q1},vY f m n=true->aJ.val m=some g->aJ.val n=some (.l k)->∃xs,g=.l xs
 |0,m,n,g,k,h,h1,d=>by have:=bM h;subst this;rw[h1]at d;cases d;exact⟨_,rfl⟩
 |f+1,m,n,g,k,h,h1,d=>by
  simp only[vY,nO]at h;rcases h with h|h
  ·have:=bM h;subst this;rw[h1]at d;cases d;exact⟨_,rfl⟩
  ·split at h
   ·next z o a i q l=>
    obtain⟨p,j,c⟩:=aJ.qQ m _ l aA;rw[h1]at j;cases j;simp only[Nd.den]at c;split at c
    ·split at c
     ·split at c
      ·split at c
       ·obtain⟨y,_,e⟩:=bn.1 c;exact⟨_,e.symm⟩
       ·cases c
      ·cases c
     ·cases c
    ·cases c
   ·next a b l=>
    obtain⟨p,j,c⟩:=aJ.qQ m _ l aA;rw[h1]at j;cases j;simp only[Nd.den]at c;split at c
    ·split at c
     ·cases c;exact⟨_,rfl⟩
     ·cases c
    ·cases c
   ·cases h
def FP{agg:Bool}{size:Nat}(h1:agg=false->size=1):∀(n:Nat){cs:Q3}{f:Q2}{vs:Q6},elemsOf agg size n cs=some f->aG F cs vs->cs.length=n*size->
 ∃gs,valsOf aJ.val f=some gs/\gs.length=n/\aG F (bP gs) vs/\cs.all AV.nT=true/\∀x∈gs,x.cells.length=size/\x.cells.all GV.scalar=true
 |0,cs,f,vs,h,e,k=>by simp only[elemsOf,aY]at h;subst h;have:cs=[]:=jR (by simpa using k);subst this;exact⟨[],rfl,rfl,by simpa[bP,dO]using e,rfl,aA⟩
 |n+1,cs,f,vs,h,e,k=>by
  simp only[elemsOf]at h;rw[rC,Hr]at k;split at h
  ·next a r b D=>
   cases h;obtain⟨gs,u,v,y,z,A⟩:=FP h1 n D (e.drop size) (by simp;omega);have o:cs=cs.take size++cs.drop size:=(KA _ _).symm;have p:vs=vs.take size++vs.drop size:=(KA _ _).symm;cases agg with
   |true=>
    simp only[if_true]at b;have i:VR F (.agg (cs.take size)) (.agg ⟨vs.take size⟩):=by simp only[VR];exact⟨_,rfl,e.take size⟩
    obtain⟨l,m,q,j,s,E,B⟩:=KP b i;cases q;refine⟨.g m::gs,by simp only[valsOf,s,u],by simp[v],?_,?_,?_⟩
    ·have:bP (.g m::gs)=dO m++bP gs:=by unfold bP;rw[jS,IJ];rfl
     rw[this,p];refine aG.append ?_ y;simp only[GR]at B;obtain⟨L,G,H⟩:=B;cases G;exact(oP _ _).1 H
    ·rw[o,ac2,aO];refine⟨?_,z⟩;unfold Fg at b;simp only at b;split at b
     ·next f t=>exact aap t
     ·cases b
    ·intro x d;rcases bJ.1 d with rfl|d
     ·exact⟨by show m.length=size;rw[j,kG];omega,E⟩
     ·exact A x d
   |false=>
    have:=h1 rfl;subst this;simp only[ig,if_false]at b;cases cs with
    |nil=>simp at k
    |cons c cs=>
     simp only[Xy,zN]at b;simp only[aG]at e;obtain⟨x,M,rfl,d,I⟩:=e;obtain⟨g,q,j,s⟩:=lN b d;refine⟨g::gs,by simp only[valsOf,q,u],by simp[v],?_,?_,?_⟩
     ·have:bP (g::gs)=dO g.cells++bP gs:=by unfold bP;rw[jS,IJ]
      rw[this,GV.JJ j];simp only[dO,bI,bf];exact aG.cons ((lD _ _).1 s) (by simpa using y)
     ·simp only[qJ,aO];exact⟨by cases c<;>simp[iY]at b<;>rfl,by simpa using z⟩
     ·intro x d;rcases bJ.1 d with rfl|d
      ·rw[GV.JJ j];exact⟨rfl,by simp[j]⟩
      ·exact A x d
  ·cases h
def atN(h:SR P F J w){e:TypeId}{x:AV}{b size:Nat}{u:Value}{O e':TypeId}{xs:Q1}(d:listOf P J e x=some b)(i:VR F x u)(ht:P.underlying O=some (.slice e'))(Z:sizeT P e=some size)(v:aJ.val b=some (.l xs))(hs:xs.all (GV.fQ size)=true):
 ∃y,Src P size O u xs.length y w/\aG F (bP xs) y:=by
 have A:F9 P O=true:=by unfold F9;rw[ht]
 have B:∀z∈xs,z.cells.length=size/\z.cells.all GV.scalar=true:=by intro z D;rw[List.all_eq_true]at hs;have:=hs z D;unfold GV.fQ at this;rw[aO]at this;exact⟨Nat.eq_of_beq_eq_true this.1,this.2⟩
 have k:(bP xs).all AV.nT=true:=by unfold bP;refine Zc ?_;rw[List.all_eq_true];intro g s;obtain⟨z,D,R⟩:=adh.1 s;exact List.all_eq_true.1 (B z D).2 g R
 unfold listOf at d;split at d
 ·next n=>
  cases d;simp only[VR]at i;obtain⟨g,h1,S,h3⟩:=i;rw[v]at h1;cases h1;have f:zy J size (.ro (dO xs))=some (xs.length,bP xs):=by simp only[zy];rw[au,lV,Zb];rfl;rw[List.all_eq_true];intro a T;rw[xq]at T;obtain⟨z,D,rfl⟩:=qK.1 T;rw[LU,lV,(B z D).1];simp
  exact src_ok h A f ((lD (.l xs) u).1 h3) k
 ·obtain⟨g,h1,S⟩:=gK d;rw[v]at h1;cases h1;simp only[Nd.den,valsOf,gU,aY,GV.l.injEq]at S;subst S;exact src_ok h A (size:=size) (n:=0) (l:=[]) rfl i rfl
 ·next id n=>
  split at d
  ·next m et _ s=>
   split at d
   ·next t=>
    cases d;rw[aO]at t;simp only[VR]at i;obtain⟨y,h1,i⟩:=i;have o:=zk 100 t.2 v h1;rcases i with⟨q,E,j,rfl⟩|⟨_,rfl,rfl⟩
    ·obtain⟨ab,G,U,k3,k4,k5,k6,_,hS⟩:=NJ h s E;rw[v]at G;cases G;have e:=bM t.1;subst e;rw[Z]at k5;cases k5;have f:zy (kV J id xs e) q.es (.sl id 0 xs.length none)=some (xs.length,bP xs):=by
      simp only[zy,ER];have:takeN (bP xs) 0 (xs.length*q.es)=some (bP xs):=by
       have d:(bP xs).length=xs.length*q.es:=by rw[bP,lV,Pg U]
       unfold takeN;rw[dD,kQ ah,au d]
      rw[this];rfl
     rw[<-o]at j⊢;exact src_ok hS A f (by simp only[VR];exact⟨q,E,by simpa using j,aA⟩) k
    ·have:xs=[]:=jR (by simpa using o);subst this;exact src_ok h A (a:=.gy) (size:=size) (n:=0) (l:=[]) rfl (by simp only[VR]) rfl
   ·cases d
  ·cases d
 ·next id V len W=>
  split at d
  ·next c et uY ac X Y s H T=>
   rw[Z]at H;cases H;split at d
   ·next t=>
    rw[aO,nO,aO]at t;split at d
    ·next cs r=>
     split at d
     ·next ns I=>
      have p:Y=false->size=1:=by
       intro e;subst e;rcases t.2 with h1|h1
       ·simp at h1
       ·exact bM h1
      obtain⟨g,g1,g2⟩:=gK d;rw[v]at g1;cases g1;simp only[VR]at i;obtain⟨q,E,j,rfl⟩:=i;obtain⟨q',L,ws,aa,fr,hb,rr⟩:=h.obj _ _ s rfl;rw[E]at L;cases L;have M:=(rQ r).2.1;obtain⟨gs,G,U,k3,k4,_⟩:=FP (F:=F) p len I (rr.zA r) M;simp only[Nd.den,G,gU,aY,GV.l.injEq]at g2;subst g2;obtain⟨y,j1,j2⟩:=src_ok h A (size:=size) (n:=len) (l:=cs) (a:=.sl id V len W) (by simp only[zy,s,r,gU]) (by simp only[VR];exact⟨q,E,j,rfl⟩) k4;obtain⟨ad,N,ae,UR,_⟩:=FP (F:=F) p len I j2 M;rw[G]at N;cases N;rw[U];exact⟨y,j1,UR⟩
     ·cases d
    ·cases d
   ·cases d
  ·cases d
 ·cases d
def aed(s:Q0):bP (bQ s)=wU s:=by
 unfold bP bQ wU;induction s with
 |nil=>rfl
 |cons c s a=>simp only[iC,jS,GV.cells,bI,bf,dO,kT,a]
